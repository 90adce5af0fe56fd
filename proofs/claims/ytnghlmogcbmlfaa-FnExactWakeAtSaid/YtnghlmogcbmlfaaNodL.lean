/- Nodes: the laws. -/
import Derived.Test.YtnghlmogcbmlfaaNodF
import Derived.Test.YtnghlmogcbmlfaaNodG
namespace Go.Proofs.Ytnghlmogcbmlfaa
set_option linter.unusedVariables false
set_option linter.unusedSimpArgs false
set_option linter.unnecessarySimpa false

def conLawN : Con := ⟨[.agg [.v, .v, .v, .v, .v, .imm .fact, .imm .rumor, .imm .int, .v, .v, .v, .v, .v, .imm .doubt]], .v, fun as => match as with
  | [.agg [.int .i64 a, .int .i64 b, .int .i64 c, .int .i64 d, .int .i64 e, .sl .fact v, .sl .rumor r, .sl .int t, .int .i64 ta, .int .i64 pn, .int .i64 pm, .int .i64 pd, .bool pa, .sl .doubt ds]] => some (.bool true, [])
  | _ => none⟩

theorem szNd_def (n : Int) (v : List Fact) (r : List Rumor) (t : List Int) (ds : List Doubt) : szNd n v r t ds = szN (szN (szN (szN n v.length) r.length) t.length) ds.length := rfl

def tb7 : Tab := fun f => match f with
  | 32 => some conSzNode
  | 33 => some conNodeB
  | 34 => some conToNode
  | 35 => some conNodeB
  | 36 => some conEqNode
  | _ => none

theorem tb7_32 : tb7 32 = some conSzNode := rfl
theorem tb7_33 : tb7 33 = some conNodeB := rfl
theorem tb7_34 : tb7 34 = some conToNode := rfl
theorem tb7_35 : tb7 35 = some conNodeB := rfl
theorem tb7_36 : tb7 36 = some conEqNode := rfl

-- loop.example/g00678/laws.FnExactNodeRight hows [(10, [.boxed, .boxed, .any, .pure, .any], [([0, 1, 2, 3, 4], [(0, 2)]), ([1, 2, 0, 3, 4], [(2, 0)])])]
def af7 : AF := ⟨27, [.t 2],
  .seq (.reg [⟨some 1, .box (.t 0), none⟩,
    ⟨some 2, .mv (.b false), none⟩])
  (.seq (.reg [⟨some 3, .mv (.i 1048576), none⟩])
  (.seq (.reg [⟨some 7, .ld true 14 (.t 1), none⟩,
    ⟨some 8, .mv (.t 3), none⟩,
    ⟨some 9, .call 32 [(.t 7), (.t 8)], none⟩,
    ⟨some 3, .mv (.t 9), none⟩])
  (.seq (.seq (.reg [⟨some 10, .mv (.t 3), none⟩,
    ⟨some 11, .bin .lss (.t 10) (.i 0), none⟩])
  (.cond (.t 11)
    (.seq (.reg [⟨some 2, .mv (.b true), none⟩])
    (.ret))
    (.skip)))
  (.seq (.reg [⟨some 12, .ld true 14 (.t 1), none⟩,
    ⟨some 13, .call 34 [(.t 12)], none⟩,
    ⟨some 14, .call 33 [(.t 13)], none⟩,
    ⟨some 4, .mv (.t 14), none⟩])
  (.seq (.reg [⟨some 15, .ld true 14 (.t 1), none⟩,
    ⟨some 16, .call 34 [(.t 15)], none⟩,
    ⟨some 5, .box (.c (.agg [.int .i64 0, .int .i64 0, .int .i64 0, .int .i64 0, .int .i64 0, .nil, .nil, .nil, .int .i64 0, .int .i64 0, .int .i64 0, .int .i64 0, .bool false, .nil])), none⟩,
    ⟨none, .st 14 (.t 5) (.t 16), none⟩])
  (.seq (.reg [⟨some 17, .ld true 14 (.t 5), none⟩,
    ⟨some 18, .call 35 [(.t 17)], none⟩,
    ⟨some 6, .mv (.t 18), none⟩])
  (.seq (.seq (.reg [⟨some 19, .mv (.t 6), none⟩,
    ⟨some 20, .mv (.t 4), none⟩,
    ⟨some 21, .eqb true (.t 19) (.t 20), none⟩])
  (.cond (.t 21)
    (.seq (.reg [⟨some 2, .mv (.b false), none⟩])
    (.ret))
    (.skip)))
  (.seq (.seq (.any [[⟨some 22, .ldb true 14 (.t 5), none⟩,
      ⟨some 23, .ldb true 14 (.t 1), none⟩,
      ⟨some 24, .call 34 [(.t 23)], none⟩,
      ⟨some 25, .callp 36 [(.t 22), (.t 24)], none⟩,
      ⟨some 26, .un .not (.t 25), none⟩],
    [⟨some 23, .ldb true 14 (.t 1), none⟩,
      ⟨some 24, .call 34 [(.t 23)], none⟩,
      ⟨some 22, .ldb true 14 (.t 5), none⟩,
      ⟨some 25, .callp 36 [(.t 22), (.t 24)], none⟩,
      ⟨some 26, .un .not (.t 25), none⟩]])
  (.cond (.t 26)
    (.seq (.reg [⟨some 2, .mv (.b false), none⟩])
    (.ret))
    (.skip)))
  (.seq (.reg [⟨some 2, .mv (.b true), none⟩])
  (.ret))))))))))⟩

set_option maxRecDepth 100000 in
set_option maxHeartbeats 4000000 in
theorem does7 (as : List AV) (hok : ok 64 as) : Does tb7 af7 conLawN as := by
  cases h : (conLawN).run as with
  | none => exact does_none h
  | some out =>
    have h' := h
    simp only [conLawN] at h'
    split at h'
    · rename_i a b c d e v r t ta pn pm pd pa ds
      simp only [ok] at hok
      obtain ⟨⟨_, _, _, _, _, ⟨hlv, _⟩, ⟨hlr, _⟩, ⟨hlt, _⟩, _, _, _, _, _, ⟨hld, _⟩, _⟩, _⟩ := hok
      have hs1 := szN_def 1048576 v.length
      have hs2 := szN_def (szN 1048576 v.length) r.length
      have hs3 := szN_def (szN (szN 1048576 v.length) r.length) t.length
      have hs4 := szN_def (szN (szN (szN 1048576 v.length) r.length) t.length) ds.length
      simp only [Option.some.injEq] at h'
      subst h'
      have hmo : (most : Int) = 1099511627776 := rfl
      have hml : (maxLen : Int) = 9223372036854775807 := rfl
      with_reducible refine does_by h fun Q hQ => ?_
      clear h
      dsimp only [af7, conLawN, go_sem, Nat.reduceAdd, Nat.reduceMul, Nat.reduceSub, Nat.reduceBEq, Nat.reduceLeDiff, Nat.reduceEqDiff, ↓dreduceIte, toG, tb7_32, tb7_33, tb7_34, tb7_35, tb7_36, conEqNode, conNodeB, conSzNode, conToNode]
      repeat' first
        | with_reducible refine kon_seq ?_
        | with_reducible refine kon_nil ?_
        | with_reducible refine kon_any ?_ ?_
        | with_reducible exact kon_any_nil
        | with_reducible refine kon_skip ?_
        | with_reducible refine kon_block ?_
        | with_reducible refine kon_ret ?_
        | with_reducible refine kon_exit ?_
        | with_reducible refine kon_past_ret ?_
        | with_reducible refine kon_past_exit ?_
        | with_reducible refine kon_blk_ret ?_
        | with_reducible refine kon_blk_end ?_
        | with_reducible refine kon_blk_exit ?_
        | (with_reducible refine kon_blk_past ?_ ?_
           · decide)
        | with_reducible refine loop_exit ?_
        | with_reducible refine loop_ret ?_
        | with_reducible refine mid_exit ?_
        | with_reducible refine mid_ret ?_
        | ((first | with_reducible refine kon_bin fun R hR => ?_ | with_reducible refine kon_conv fun R hR => ?_)
           dsimp only [go_sem, Nat.reduceAdd, Nat.reduceMul, Nat.reduceSub, Nat.reduceBEq, Nat.reduceLeDiff, Nat.reduceEqDiff, ↓dreduceIte, toG, tb7_32, tb7_33, tb7_34, tb7_35, tb7_36, conEqNode, conNodeB, conSzNode, conToNode]
           try simp (disch := first | omega | (simp only [List.length_set, List.length_append, List.length_cons, List.length_nil, List.length_replicate]; omega)) only [guardP_T, guardP_pos, iteN, rd_set, List.set_set, List.length_set, eta_fact, eta_rumor, eta_doubt, eta_item, eta_rec, eta_due, look, look0, rd_toNat, wrap64, Int.toNat_natCast, Nat.zero_add, List.take_length, List.drop_zero, and_self, setB_len, true_and, and_true, szNd_def, eqNd_self]
           with_reducible refine hR _ ?_
           clear hR R)
        | (with_reducible refine kon_ins fun R hR => ?_
           dsimp only [go_sem, Nat.reduceAdd, Nat.reduceMul, Nat.reduceSub, Nat.reduceBEq, Nat.reduceLeDiff, Nat.reduceEqDiff, ↓dreduceIte, toG, tb7_32, tb7_33, tb7_34, tb7_35, tb7_36, conEqNode, conNodeB, conSzNode, conToNode]
           first
             | with_reducible refine hR _ ?_
             | (simp (disch := first | omega | (simp only [List.length_set, List.length_append, List.length_cons, List.length_nil, List.length_replicate]; omega)) only [guardP_T, guardP_pos, iteN, rd_set, List.set_set, List.length_set, eta_fact, eta_rumor, eta_doubt, eta_item, eta_rec, eta_due, look, look0, rd_toNat, wrap64, Int.toNat_natCast, Nat.zero_add, List.take_length, List.drop_zero, and_self, setB_len, true_and, and_true, szNd_def, eqNd_self]
                try dsimp only [go_sem, Nat.reduceAdd, Nat.reduceMul, Nat.reduceSub, Nat.reduceBEq, Nat.reduceLeDiff, Nat.reduceEqDiff, ↓dreduceIte, toG, tb7_32, tb7_33, tb7_34, tb7_35, tb7_36, conEqNode, conNodeB, conSzNode, conToNode]
                try simp (disch := first | omega | (simp only [List.length_set, List.length_append, List.length_cons, List.length_nil, List.length_replicate]; omega)) only [guardP_T, guardP_pos, iteN, rd_set, List.set_set, List.length_set, eta_fact, eta_rumor, eta_doubt, eta_item, eta_rec, eta_due, look, look0, rd_toNat, wrap64, Int.toNat_natCast, Nat.zero_add, List.take_length, List.drop_zero, and_self, setB_len, true_and, and_true, szNd_def, eqNd_self]
                with_reducible refine hR _ ?_)
           clear hR R)
        | (with_reducible refine kon_g_run ?_ ?_
           · dsimp only [nth] <;> with_reducible rfl)
        | (with_reducible refine kon_g_skip ?_ ?_
           · dsimp only [nth, not_t', not_f'] <;> with_reducible rfl
           dsimp only [go_sem])
        | (with_reducible refine kon_g_undef ?_ ?_
           · dsimp only [nth] <;> with_reducible rfl
           dsimp only [go_sem])
        | (with_reducible refine kon_g fun R hR => ?_
           dsimp only [go_sem, Nat.reduceAdd, Nat.reduceMul, Nat.reduceSub, Nat.reduceBEq, Nat.reduceLeDiff, Nat.reduceEqDiff, ↓dreduceIte, toG, tb7_32, tb7_33, tb7_34, tb7_35, tb7_36, conEqNode, conNodeB, conSzNode, conToNode]
           split <;> (rename_i hb; with_reducible refine hR _ ?_; clear hR R; try simp only [hb]; try simp only [decide_eq_true_eq, decide_eq_false_iff_not, beq_iff_eq, beq_eq_false_iff_ne, bne_iff_ne, bne_eq_false_iff_eq, Bool.not_eq_true, Bool.not_eq_false, Bool.not_eq_eq_eq_not, Bool.not_true, Bool.not_false, ne_eq, Int.not_lt, Int.not_le, eq_self, not_true_eq_false, not_false_eq_true, decide_true, decide_false, Bool.and_eq_true, Bool.or_eq_true, Bool.and_eq_false_iff, Bool.or_eq_false_iff, gt_iff_lt, ge_iff_le, Bool.false_eq_true, Bool.true_eq_false, reduceCtorEq, or_false, false_or, or_true, true_or, false_and, and_false, szNd_def, eqNd_self] at hb; try (exfalso; omega)))
        | (with_reducible refine kon_cond fun R1 R2 h1 h2 => ?_
           dsimp only [go_sem]
           first
             | (with_reducible refine h1 ?_; clear h1 h2 R1 R2)
             | (with_reducible refine h2 ?_; clear h1 h2 R1 R2)
             | ((split <;> rename_i hb <;> first
                 | (with_reducible refine h1 ?_; clear h1 h2 R1 R2; try simp only [hb])
                 | (with_reducible refine h2 ?_; clear h1 h2 R1 R2; try simp only [hb])) <;> (try simp only [decide_eq_true_eq, decide_eq_false_iff_not, beq_iff_eq, beq_eq_false_iff_ne, bne_iff_ne, bne_eq_false_iff_eq, Bool.not_eq_true, Bool.not_eq_false, Bool.not_eq_eq_eq_not, Bool.not_true, Bool.not_false, ne_eq, Int.not_lt, Int.not_le, eq_self, not_true_eq_false, not_false_eq_true, decide_true, decide_false, Bool.and_eq_true, Bool.or_eq_true, Bool.and_eq_false_iff, Bool.or_eq_false_iff, gt_iff_lt, ge_iff_le, Bool.false_eq_true, Bool.true_eq_false, reduceCtorEq, or_false, false_or, or_true, true_or, false_and, and_false, szNd_def, eqNd_self] at hb; try (exfalso; omega))))
      all_goals first
        | (dsimp only [kon]
           with_reducible refine hQ _ _ _ ?_
           dsimp only [kon, endQ, af7, conLawN, go_sem, Nat.reduceAdd, Nat.reduceMul, Nat.reduceSub, Nat.reduceBEq, Nat.reduceLeDiff, Nat.reduceEqDiff, ↓dreduceIte, toG, tb7_32, tb7_33, tb7_34, tb7_35, tb7_36, conEqNode, conNodeB, conSzNode, conToNode]
           try simp (disch := first | omega | (simp only [List.length_set, List.length_append, List.length_cons, List.length_nil, List.length_replicate]; omega)) only [guardP_T, guardP_pos, iteN, rd_set, List.set_set, List.length_set, eta_fact, eta_rumor, eta_doubt, eta_item, eta_rec, eta_due, look, look0, rd_toNat, wrap64, Int.toNat_natCast, Nat.zero_add, List.take_length, List.drop_zero, and_self, setB_len, true_and, and_true]
           try dsimp only [go_sem, Nat.reduceAdd, Nat.reduceMul, Nat.reduceSub, Nat.reduceBEq, Nat.reduceLeDiff, Nat.reduceEqDiff, ↓dreduceIte, toG, tb7_32, tb7_33, tb7_34, tb7_35, tb7_36, conEqNode, conNodeB, conSzNode, conToNode])
        | skip
      all_goals try first
        | omega
        | (simp; done)
        | (simp; omega)
      all_goals first
        | rfl
    · simp at h'

def tb10 : Tab := fun f => match f with
  | 32 => some conSzNode
  | 34 => some conToNode
  | 36 => some conEqNode
  | 51 => some conWake
  | 52 => some conWake
  | _ => none

theorem tb10_32 : tb10 32 = some conSzNode := rfl
theorem tb10_34 : tb10 34 = some conToNode := rfl
theorem tb10_36 : tb10 36 = some conEqNode := rfl
theorem tb10_51 : tb10 51 = some conWake := rfl
theorem tb10_52 : tb10 52 = some conWake := rfl

-- loop.example/g00678/laws.FnExactWakeAt hows [(10, [.boxed, .boxed, .any, .pure, .any], [([0, 1, 2, 3, 4], [(0, 2)]), ([1, 2, 0, 3, 4], [(2, 0)])])]
def af10 : AF := ⟨27, [.t 2],
  .seq (.reg [⟨some 1, .box (.t 0), none⟩,
    ⟨some 2, .mv (.b false), none⟩])
  (.seq (.reg [⟨some 3, .mv (.i 1048576), none⟩])
  (.seq (.reg [⟨some 7, .ld true 14 (.t 1), none⟩,
    ⟨some 8, .mv (.t 3), none⟩,
    ⟨some 9, .call 32 [(.t 7), (.t 8)], none⟩,
    ⟨some 3, .mv (.t 9), none⟩])
  (.seq (.seq (.reg [⟨some 10, .mv (.t 3), none⟩,
    ⟨some 11, .bin .lss (.t 10) (.i 0), none⟩])
  (.cond (.t 11)
    (.seq (.reg [⟨some 2, .mv (.b true), none⟩])
    (.ret))
    (.skip)))
  (.seq (.reg [⟨some 12, .ld true 14 (.t 1), none⟩,
    ⟨some 13, .call 34 [(.t 12)], none⟩,
    ⟨some 14, .call 51 [(.t 13)], none⟩,
    ⟨some 4, .mv (.t 14), none⟩])
  (.seq (.reg [⟨some 15, .ld true 14 (.t 1), none⟩,
    ⟨some 16, .call 34 [(.t 15)], none⟩,
    ⟨some 5, .box (.c (.agg [.int .i64 0, .int .i64 0, .int .i64 0, .int .i64 0, .int .i64 0, .nil, .nil, .nil, .int .i64 0, .int .i64 0, .int .i64 0, .int .i64 0, .bool false, .nil])), none⟩,
    ⟨none, .st 14 (.t 5) (.t 16), none⟩])
  (.seq (.reg [⟨some 17, .ld true 14 (.t 5), none⟩,
    ⟨some 18, .call 52 [(.t 17)], none⟩,
    ⟨some 6, .mv (.t 18), none⟩])
  (.seq (.seq (.reg [⟨some 19, .mv (.t 6), none⟩,
    ⟨some 20, .mv (.t 4), none⟩,
    ⟨some 21, .bin .neq (.t 19) (.t 20), none⟩])
  (.cond (.t 21)
    (.seq (.reg [⟨some 2, .mv (.b false), none⟩])
    (.ret))
    (.skip)))
  (.seq (.seq (.any [[⟨some 22, .ldb true 14 (.t 5), none⟩,
      ⟨some 23, .ldb true 14 (.t 1), none⟩,
      ⟨some 24, .call 34 [(.t 23)], none⟩,
      ⟨some 25, .callp 36 [(.t 22), (.t 24)], none⟩,
      ⟨some 26, .un .not (.t 25), none⟩],
    [⟨some 23, .ldb true 14 (.t 1), none⟩,
      ⟨some 24, .call 34 [(.t 23)], none⟩,
      ⟨some 22, .ldb true 14 (.t 5), none⟩,
      ⟨some 25, .callp 36 [(.t 22), (.t 24)], none⟩,
      ⟨some 26, .un .not (.t 25), none⟩]])
  (.cond (.t 26)
    (.seq (.reg [⟨some 2, .mv (.b false), none⟩])
    (.ret))
    (.skip)))
  (.seq (.reg [⟨some 2, .mv (.b true), none⟩])
  (.ret))))))))))⟩

set_option maxRecDepth 100000 in
set_option maxHeartbeats 4000000 in
theorem does10 (as : List AV) (hok : ok 64 as) : Does tb10 af10 conLawN as := by
  cases h : (conLawN).run as with
  | none => exact does_none h
  | some out =>
    have h' := h
    simp only [conLawN] at h'
    split at h'
    · rename_i a b c d e v r t ta pn pm pd pa ds
      simp only [ok] at hok
      obtain ⟨⟨_, _, _, _, _, ⟨hlv, _⟩, ⟨hlr, _⟩, ⟨hlt, _⟩, _, _, _, _, _, ⟨hld, _⟩, _⟩, _⟩ := hok
      have hs1 := szN_def 1048576 v.length
      have hs2 := szN_def (szN 1048576 v.length) r.length
      have hs3 := szN_def (szN (szN 1048576 v.length) r.length) t.length
      have hs4 := szN_def (szN (szN (szN 1048576 v.length) r.length) t.length) ds.length
      simp only [Option.some.injEq] at h'
      subst h'
      have hmo : (most : Int) = 1099511627776 := rfl
      have hml : (maxLen : Int) = 9223372036854775807 := rfl
      with_reducible refine does_by h fun Q hQ => ?_
      clear h
      dsimp only [af10, conLawN, go_sem, Nat.reduceAdd, Nat.reduceMul, Nat.reduceSub, Nat.reduceBEq, Nat.reduceLeDiff, Nat.reduceEqDiff, ↓dreduceIte, toG, tb10_32, tb10_34, tb10_36, tb10_51, tb10_52, conEqNode, conSzNode, conToNode, conWake]
      repeat' first
        | with_reducible refine kon_seq ?_
        | with_reducible refine kon_nil ?_
        | with_reducible refine kon_any ?_ ?_
        | with_reducible exact kon_any_nil
        | with_reducible refine kon_skip ?_
        | with_reducible refine kon_block ?_
        | with_reducible refine kon_ret ?_
        | with_reducible refine kon_exit ?_
        | with_reducible refine kon_past_ret ?_
        | with_reducible refine kon_past_exit ?_
        | with_reducible refine kon_blk_ret ?_
        | with_reducible refine kon_blk_end ?_
        | with_reducible refine kon_blk_exit ?_
        | (with_reducible refine kon_blk_past ?_ ?_
           · decide)
        | with_reducible refine loop_exit ?_
        | with_reducible refine loop_ret ?_
        | with_reducible refine mid_exit ?_
        | with_reducible refine mid_ret ?_
        | ((first | with_reducible refine kon_bin fun R hR => ?_ | with_reducible refine kon_conv fun R hR => ?_)
           dsimp only [go_sem, Nat.reduceAdd, Nat.reduceMul, Nat.reduceSub, Nat.reduceBEq, Nat.reduceLeDiff, Nat.reduceEqDiff, ↓dreduceIte, toG, tb10_32, tb10_34, tb10_36, tb10_51, tb10_52, conEqNode, conSzNode, conToNode, conWake]
           try simp (disch := first | omega | (simp only [List.length_set, List.length_append, List.length_cons, List.length_nil, List.length_replicate]; omega)) only [guardP_T, guardP_pos, iteN, rd_set, List.set_set, List.length_set, eta_fact, eta_rumor, eta_doubt, eta_item, eta_rec, eta_due, look, look0, rd_toNat, wrap64, Int.toNat_natCast, Nat.zero_add, List.take_length, List.drop_zero, and_self, setB_len, true_and, and_true, szNd_def, eqNd_self]
           with_reducible refine hR _ ?_
           clear hR R)
        | (with_reducible refine kon_ins fun R hR => ?_
           dsimp only [go_sem, Nat.reduceAdd, Nat.reduceMul, Nat.reduceSub, Nat.reduceBEq, Nat.reduceLeDiff, Nat.reduceEqDiff, ↓dreduceIte, toG, tb10_32, tb10_34, tb10_36, tb10_51, tb10_52, conEqNode, conSzNode, conToNode, conWake]
           first
             | with_reducible refine hR _ ?_
             | (simp (disch := first | omega | (simp only [List.length_set, List.length_append, List.length_cons, List.length_nil, List.length_replicate]; omega)) only [guardP_T, guardP_pos, iteN, rd_set, List.set_set, List.length_set, eta_fact, eta_rumor, eta_doubt, eta_item, eta_rec, eta_due, look, look0, rd_toNat, wrap64, Int.toNat_natCast, Nat.zero_add, List.take_length, List.drop_zero, and_self, setB_len, true_and, and_true, szNd_def, eqNd_self]
                try dsimp only [go_sem, Nat.reduceAdd, Nat.reduceMul, Nat.reduceSub, Nat.reduceBEq, Nat.reduceLeDiff, Nat.reduceEqDiff, ↓dreduceIte, toG, tb10_32, tb10_34, tb10_36, tb10_51, tb10_52, conEqNode, conSzNode, conToNode, conWake]
                try simp (disch := first | omega | (simp only [List.length_set, List.length_append, List.length_cons, List.length_nil, List.length_replicate]; omega)) only [guardP_T, guardP_pos, iteN, rd_set, List.set_set, List.length_set, eta_fact, eta_rumor, eta_doubt, eta_item, eta_rec, eta_due, look, look0, rd_toNat, wrap64, Int.toNat_natCast, Nat.zero_add, List.take_length, List.drop_zero, and_self, setB_len, true_and, and_true, szNd_def, eqNd_self]
                with_reducible refine hR _ ?_)
           clear hR R)
        | (with_reducible refine kon_g_run ?_ ?_
           · dsimp only [nth] <;> with_reducible rfl)
        | (with_reducible refine kon_g_skip ?_ ?_
           · dsimp only [nth, not_t', not_f'] <;> with_reducible rfl
           dsimp only [go_sem])
        | (with_reducible refine kon_g_undef ?_ ?_
           · dsimp only [nth] <;> with_reducible rfl
           dsimp only [go_sem])
        | (with_reducible refine kon_g fun R hR => ?_
           dsimp only [go_sem, Nat.reduceAdd, Nat.reduceMul, Nat.reduceSub, Nat.reduceBEq, Nat.reduceLeDiff, Nat.reduceEqDiff, ↓dreduceIte, toG, tb10_32, tb10_34, tb10_36, tb10_51, tb10_52, conEqNode, conSzNode, conToNode, conWake]
           split <;> (rename_i hb; with_reducible refine hR _ ?_; clear hR R; try simp only [hb]; try simp only [decide_eq_true_eq, decide_eq_false_iff_not, beq_iff_eq, beq_eq_false_iff_ne, bne_iff_ne, bne_eq_false_iff_eq, Bool.not_eq_true, Bool.not_eq_false, Bool.not_eq_eq_eq_not, Bool.not_true, Bool.not_false, ne_eq, Int.not_lt, Int.not_le, eq_self, not_true_eq_false, not_false_eq_true, decide_true, decide_false, Bool.and_eq_true, Bool.or_eq_true, Bool.and_eq_false_iff, Bool.or_eq_false_iff, gt_iff_lt, ge_iff_le, Bool.false_eq_true, Bool.true_eq_false, reduceCtorEq, or_false, false_or, or_true, true_or, false_and, and_false, szNd_def, eqNd_self] at hb; try (exfalso; omega)))
        | (with_reducible refine kon_cond fun R1 R2 h1 h2 => ?_
           dsimp only [go_sem]
           first
             | (with_reducible refine h1 ?_; clear h1 h2 R1 R2)
             | (with_reducible refine h2 ?_; clear h1 h2 R1 R2)
             | ((split <;> rename_i hb <;> first
                 | (with_reducible refine h1 ?_; clear h1 h2 R1 R2; try simp only [hb])
                 | (with_reducible refine h2 ?_; clear h1 h2 R1 R2; try simp only [hb])) <;> (try simp only [decide_eq_true_eq, decide_eq_false_iff_not, beq_iff_eq, beq_eq_false_iff_ne, bne_iff_ne, bne_eq_false_iff_eq, Bool.not_eq_true, Bool.not_eq_false, Bool.not_eq_eq_eq_not, Bool.not_true, Bool.not_false, ne_eq, Int.not_lt, Int.not_le, eq_self, not_true_eq_false, not_false_eq_true, decide_true, decide_false, Bool.and_eq_true, Bool.or_eq_true, Bool.and_eq_false_iff, Bool.or_eq_false_iff, gt_iff_lt, ge_iff_le, Bool.false_eq_true, Bool.true_eq_false, reduceCtorEq, or_false, false_or, or_true, true_or, false_and, and_false, szNd_def, eqNd_self] at hb; try (exfalso; omega))))
      all_goals first
        | (dsimp only [kon]
           with_reducible refine hQ _ _ _ ?_
           dsimp only [kon, endQ, af10, conLawN, go_sem, Nat.reduceAdd, Nat.reduceMul, Nat.reduceSub, Nat.reduceBEq, Nat.reduceLeDiff, Nat.reduceEqDiff, ↓dreduceIte, toG, tb10_32, tb10_34, tb10_36, tb10_51, tb10_52, conEqNode, conSzNode, conToNode, conWake]
           try simp (disch := first | omega | (simp only [List.length_set, List.length_append, List.length_cons, List.length_nil, List.length_replicate]; omega)) only [guardP_T, guardP_pos, iteN, rd_set, List.set_set, List.length_set, eta_fact, eta_rumor, eta_doubt, eta_item, eta_rec, eta_due, look, look0, rd_toNat, wrap64, Int.toNat_natCast, Nat.zero_add, List.take_length, List.drop_zero, and_self, setB_len, true_and, and_true]
           try dsimp only [go_sem, Nat.reduceAdd, Nat.reduceMul, Nat.reduceSub, Nat.reduceBEq, Nat.reduceLeDiff, Nat.reduceEqDiff, ↓dreduceIte, toG, tb10_32, tb10_34, tb10_36, tb10_51, tb10_52, conEqNode, conSzNode, conToNode, conWake])
        | skip
      all_goals try first
        | omega
        | (simp; done)
        | (simp; omega)
      all_goals first
        | rfl
    · simp at h'

end Go.Proofs.Ytnghlmogcbmlfaa
