/- Facts, rumors and doubts: copied, compared, counted. -/
import Derived.Test.YtnghlmogcbmlfaaBaseA
namespace Go.Proofs.Ytnghlmogcbmlfaa
set_option linter.unusedVariables false
set_option linter.unusedSimpArgs false
set_option linter.unnecessarySimpa false

def conToFact : Con := ⟨[.v], .v, fun as => match as with
  | [.agg [.int .i64 pa, .int .i64 pb, .int .i64 pc]] => some (.agg [.int .i64 pa, .int .i64 pb, .int .i64 pc], [])
  | _ => none⟩

-- loop.example/g00678/laws.toFact hows []
def af157 : AF := ⟨14, [.cell 2 true 3],
  .seq (.reg [⟨some 1, .box (.t 0), none⟩,
    ⟨some 2, .box (.c (.agg [.int .i64 0, .int .i64 0, .int .i64 0])), none⟩])
  (.seq (.reg [⟨some 3, .box (.c (.agg [.int .i64 0, .int .i64 0, .int .i64 0])), none⟩])
  (.seq (.reg [⟨some 4, .fa 0 (.t 1), none⟩,
    ⟨some 5, .ld false 1 (.t 4), none⟩,
    ⟨some 6, .fa 0 (.t 3), none⟩,
    ⟨none, .st 1 (.t 6) (.t 5), none⟩])
  (.seq (.reg [⟨some 7, .fa 1 (.t 1), none⟩,
    ⟨some 8, .ld false 1 (.t 7), none⟩,
    ⟨some 9, .fa 1 (.t 3), none⟩,
    ⟨none, .st 1 (.t 9) (.t 8), none⟩])
  (.seq (.reg [⟨some 10, .fa 2 (.t 1), none⟩,
    ⟨some 11, .ld false 1 (.t 10), none⟩,
    ⟨some 12, .fa 2 (.t 3), none⟩,
    ⟨none, .st 1 (.t 12) (.t 11), none⟩])
  (.seq (.reg [⟨some 13, .ld true 3 (.t 3), none⟩,
    ⟨none, .st 3 (.t 2) (.t 13), none⟩])
  (.ret))))))⟩

set_option maxHeartbeats 4000000 in
theorem does157 (as : List AV) (hok : ok 64 as) : Does tbNone af157 conToFact as := by
  cases h : (conToFact).run as with
  | none => exact does_none h
  | some out =>
    have h' := h
    simp only [conToFact] at h'
    split at h'
    · rename_i pa pb pc
      simp only [Option.some.injEq] at h'
      subst h'
      have hmo : (most : Int) = 1099511627776 := rfl
      have hml : (maxLen : Int) = 9223372036854775807 := rfl
      with_reducible refine does_by h fun Q hQ => ?_
      clear h
      dsimp only [af157, conToFact, go_sem, Nat.reduceAdd, Nat.reduceMul, Nat.reduceSub, Nat.reduceBEq, Nat.reduceLeDiff, Nat.reduceEqDiff, ↓dreduceIte, toG]
      repeat' first
        | with_reducible refine kon_seq ?_
        | with_reducible refine kon_nil ?_
        | with_reducible refine kon_any ?_ ?_
        | with_reducible exact kon_any_nil
        | with_reducible refine kon_skip ?_
        | with_reducible refine kon_block ?_
        | with_reducible refine kon_ret ?_
        | with_reducible refine kon_exit ?_
        | with_reducible refine kon_past_ret ?_
        | with_reducible refine kon_past_exit ?_
        | with_reducible refine kon_blk_ret ?_
        | with_reducible refine kon_blk_end ?_
        | with_reducible refine kon_blk_exit ?_
        | (with_reducible refine kon_blk_past ?_ ?_
           · decide)
        | with_reducible refine loop_exit ?_
        | with_reducible refine loop_ret ?_
        | with_reducible refine mid_exit ?_
        | with_reducible refine mid_ret ?_
        | ((first | with_reducible refine kon_bin fun R hR => ?_ | with_reducible refine kon_conv fun R hR => ?_)
           dsimp only [go_sem, Nat.reduceAdd, Nat.reduceMul, Nat.reduceSub, Nat.reduceBEq, Nat.reduceLeDiff, Nat.reduceEqDiff, ↓dreduceIte, toG]
           try simp (disch := first | omega | (simp only [List.length_set, List.length_append, List.length_cons, List.length_nil, List.length_replicate]; omega)) only [guardP_T, guardP_pos, iteN, rd_set, List.set_set, List.length_set, eta_fact, eta_rumor, eta_doubt, eta_item, eta_rec, eta_due, look, look0, rd_toNat, wrap64, Int.toNat_natCast, Nat.zero_add, List.take_length, List.drop_zero, and_self, setB_len, true_and, and_true]
           with_reducible refine hR _ ?_
           clear hR R)
        | (with_reducible refine kon_ins fun R hR => ?_
           dsimp only [go_sem, Nat.reduceAdd, Nat.reduceMul, Nat.reduceSub, Nat.reduceBEq, Nat.reduceLeDiff, Nat.reduceEqDiff, ↓dreduceIte, toG]
           first
             | with_reducible refine hR _ ?_
             | (simp (disch := first | omega | (simp only [List.length_set, List.length_append, List.length_cons, List.length_nil, List.length_replicate]; omega)) only [guardP_T, guardP_pos, iteN, rd_set, List.set_set, List.length_set, eta_fact, eta_rumor, eta_doubt, eta_item, eta_rec, eta_due, look, look0, rd_toNat, wrap64, Int.toNat_natCast, Nat.zero_add, List.take_length, List.drop_zero, and_self, setB_len, true_and, and_true]
                try dsimp only [go_sem, Nat.reduceAdd, Nat.reduceMul, Nat.reduceSub, Nat.reduceBEq, Nat.reduceLeDiff, Nat.reduceEqDiff, ↓dreduceIte, toG]
                try simp (disch := first | omega | (simp only [List.length_set, List.length_append, List.length_cons, List.length_nil, List.length_replicate]; omega)) only [guardP_T, guardP_pos, iteN, rd_set, List.set_set, List.length_set, eta_fact, eta_rumor, eta_doubt, eta_item, eta_rec, eta_due, look, look0, rd_toNat, wrap64, Int.toNat_natCast, Nat.zero_add, List.take_length, List.drop_zero, and_self, setB_len, true_and, and_true]
                with_reducible refine hR _ ?_)
           clear hR R)
        | (with_reducible refine kon_g_run ?_ ?_
           · dsimp only [nth] <;> with_reducible rfl)
        | (with_reducible refine kon_g_skip ?_ ?_
           · dsimp only [nth, not_t', not_f'] <;> with_reducible rfl
           dsimp only [go_sem])
        | (with_reducible refine kon_g_undef ?_ ?_
           · dsimp only [nth] <;> with_reducible rfl
           dsimp only [go_sem])
        | (with_reducible refine kon_g fun R hR => ?_
           dsimp only [go_sem, Nat.reduceAdd, Nat.reduceMul, Nat.reduceSub, Nat.reduceBEq, Nat.reduceLeDiff, Nat.reduceEqDiff, ↓dreduceIte, toG]
           split <;> (rename_i hb; with_reducible refine hR _ ?_; clear hR R; try simp only [hb]; try simp only [decide_eq_true_eq, decide_eq_false_iff_not, beq_iff_eq, beq_eq_false_iff_ne, bne_iff_ne, bne_eq_false_iff_eq, Bool.not_eq_true, Bool.not_eq_false, Bool.not_eq_eq_eq_not, Bool.not_true, Bool.not_false, ne_eq, Int.not_lt, Int.not_le, eq_self, not_true_eq_false, not_false_eq_true, decide_true, decide_false, Bool.and_eq_true, Bool.or_eq_true, Bool.and_eq_false_iff, Bool.or_eq_false_iff, gt_iff_lt, ge_iff_le, Bool.false_eq_true, Bool.true_eq_false, reduceCtorEq, or_false, false_or, or_true, true_or, false_and, and_false] at hb; try (exfalso; omega)))
        | (with_reducible refine kon_cond fun R1 R2 h1 h2 => ?_
           dsimp only [go_sem]
           first
             | (with_reducible refine h1 ?_; clear h1 h2 R1 R2)
             | (with_reducible refine h2 ?_; clear h1 h2 R1 R2)
             | ((split <;> rename_i hb <;> first
                 | (with_reducible refine h1 ?_; clear h1 h2 R1 R2; try simp only [hb])
                 | (with_reducible refine h2 ?_; clear h1 h2 R1 R2; try simp only [hb])) <;> (try simp only [decide_eq_true_eq, decide_eq_false_iff_not, beq_iff_eq, beq_eq_false_iff_ne, bne_iff_ne, bne_eq_false_iff_eq, Bool.not_eq_true, Bool.not_eq_false, Bool.not_eq_eq_eq_not, Bool.not_true, Bool.not_false, ne_eq, Int.not_lt, Int.not_le, eq_self, not_true_eq_false, not_false_eq_true, decide_true, decide_false, Bool.and_eq_true, Bool.or_eq_true, Bool.and_eq_false_iff, Bool.or_eq_false_iff, gt_iff_lt, ge_iff_le, Bool.false_eq_true, Bool.true_eq_false, reduceCtorEq, or_false, false_or, or_true, true_or, false_and, and_false] at hb; try (exfalso; omega))))
      all_goals first
        | (dsimp only [kon]
           with_reducible refine hQ _ _ _ ?_
           dsimp only [kon, endQ, af157, conToFact, go_sem, Nat.reduceAdd, Nat.reduceMul, Nat.reduceSub, Nat.reduceBEq, Nat.reduceLeDiff, Nat.reduceEqDiff, ↓dreduceIte, toG]
           try simp (disch := first | omega | (simp only [List.length_set, List.length_append, List.length_cons, List.length_nil, List.length_replicate]; omega)) only [guardP_T, guardP_pos, iteN, rd_set, List.set_set, List.length_set, eta_fact, eta_rumor, eta_doubt, eta_item, eta_rec, eta_due, look, look0, rd_toNat, wrap64, Int.toNat_natCast, Nat.zero_add, List.take_length, List.drop_zero, and_self, setB_len, true_and, and_true]
           try dsimp only [go_sem, Nat.reduceAdd, Nat.reduceMul, Nat.reduceSub, Nat.reduceBEq, Nat.reduceLeDiff, Nat.reduceEqDiff, ↓dreduceIte, toG])
        | skip
      all_goals try first
        | omega
        | (simp; done)
        | (simp; omega)
      all_goals rfl
    · simp at h'

def conEqFact : Con := ⟨[.v, .v], .v, fun as => match as with
  | [.agg [.int .i64 pa, .int .i64 pb, .int .i64 pc], .agg [.int .i64 qa, .int .i64 qb, .int .i64 qc]] => some (.bool (decide ((⟨pa, pb, pc⟩ : Fact) = (⟨qa, qb, qc⟩ : Fact))), [])
  | _ => none⟩

-- loop.example/g00678/laws.eqFact hows []
def af80 : AF := ⟨20, [.t 4],
  .seq (.reg [⟨some 2, .box (.t 0), none⟩,
    ⟨some 3, .box (.t 1), none⟩,
    ⟨some 4, .mv (.b false), none⟩])
  (.seq (.seq (.reg [⟨some 5, .fa 0 (.t 2), none⟩,
    ⟨some 6, .ld false 1 (.t 5), none⟩,
    ⟨some 7, .fa 0 (.t 3), none⟩,
    ⟨some 8, .ld false 1 (.t 7), none⟩,
    ⟨some 9, .bin .neq (.t 6) (.t 8), none⟩])
  (.cond (.t 9)
    (.seq (.reg [⟨some 4, .mv (.b false), none⟩])
    (.ret))
    (.skip)))
  (.seq (.seq (.reg [⟨some 10, .fa 1 (.t 2), none⟩,
    ⟨some 11, .ld false 1 (.t 10), none⟩,
    ⟨some 12, .fa 1 (.t 3), none⟩,
    ⟨some 13, .ld false 1 (.t 12), none⟩,
    ⟨some 14, .bin .neq (.t 11) (.t 13), none⟩])
  (.cond (.t 14)
    (.seq (.reg [⟨some 4, .mv (.b false), none⟩])
    (.ret))
    (.skip)))
  (.seq (.seq (.reg [⟨some 15, .fa 2 (.t 2), none⟩,
    ⟨some 16, .ld false 1 (.t 15), none⟩,
    ⟨some 17, .fa 2 (.t 3), none⟩,
    ⟨some 18, .ld false 1 (.t 17), none⟩,
    ⟨some 19, .bin .neq (.t 16) (.t 18), none⟩])
  (.cond (.t 19)
    (.seq (.reg [⟨some 4, .mv (.b false), none⟩])
    (.ret))
    (.skip)))
  (.seq (.reg [⟨some 4, .mv (.b true), none⟩])
  (.ret)))))⟩

set_option maxHeartbeats 4000000 in
theorem does80 (as : List AV) (hok : ok 64 as) : Does tbNone af80 conEqFact as := by
  cases h : (conEqFact).run as with
  | none => exact does_none h
  | some out =>
    have h' := h
    simp only [conEqFact] at h'
    split at h'
    · rename_i pa pb pc qa qb qc
      simp only [Option.some.injEq] at h'
      subst h'
      have hmo : (most : Int) = 1099511627776 := rfl
      have hml : (maxLen : Int) = 9223372036854775807 := rfl
      with_reducible refine does_by h fun Q hQ => ?_
      clear h
      dsimp only [af80, conEqFact, go_sem, Nat.reduceAdd, Nat.reduceMul, Nat.reduceSub, Nat.reduceBEq, Nat.reduceLeDiff, Nat.reduceEqDiff, ↓dreduceIte, toG]
      repeat' first
        | with_reducible refine kon_seq ?_
        | with_reducible refine kon_nil ?_
        | with_reducible refine kon_any ?_ ?_
        | with_reducible exact kon_any_nil
        | with_reducible refine kon_skip ?_
        | with_reducible refine kon_block ?_
        | with_reducible refine kon_ret ?_
        | with_reducible refine kon_exit ?_
        | with_reducible refine kon_past_ret ?_
        | with_reducible refine kon_past_exit ?_
        | with_reducible refine kon_blk_ret ?_
        | with_reducible refine kon_blk_end ?_
        | with_reducible refine kon_blk_exit ?_
        | (with_reducible refine kon_blk_past ?_ ?_
           · decide)
        | with_reducible refine loop_exit ?_
        | with_reducible refine loop_ret ?_
        | with_reducible refine mid_exit ?_
        | with_reducible refine mid_ret ?_
        | ((first | with_reducible refine kon_bin fun R hR => ?_ | with_reducible refine kon_conv fun R hR => ?_)
           dsimp only [go_sem, Nat.reduceAdd, Nat.reduceMul, Nat.reduceSub, Nat.reduceBEq, Nat.reduceLeDiff, Nat.reduceEqDiff, ↓dreduceIte, toG]
           try simp (disch := first | omega | (simp only [List.length_set, List.length_append, List.length_cons, List.length_nil, List.length_replicate]; omega)) only [guardP_T, guardP_pos, iteN, rd_set, List.set_set, List.length_set, eta_fact, eta_rumor, eta_doubt, eta_item, eta_rec, eta_due, look, look0, rd_toNat, wrap64, Int.toNat_natCast, Nat.zero_add, List.take_length, List.drop_zero, and_self, setB_len, true_and, and_true]
           with_reducible refine hR _ ?_
           clear hR R)
        | (with_reducible refine kon_ins fun R hR => ?_
           dsimp only [go_sem, Nat.reduceAdd, Nat.reduceMul, Nat.reduceSub, Nat.reduceBEq, Nat.reduceLeDiff, Nat.reduceEqDiff, ↓dreduceIte, toG]
           first
             | with_reducible refine hR _ ?_
             | (simp (disch := first | omega | (simp only [List.length_set, List.length_append, List.length_cons, List.length_nil, List.length_replicate]; omega)) only [guardP_T, guardP_pos, iteN, rd_set, List.set_set, List.length_set, eta_fact, eta_rumor, eta_doubt, eta_item, eta_rec, eta_due, look, look0, rd_toNat, wrap64, Int.toNat_natCast, Nat.zero_add, List.take_length, List.drop_zero, and_self, setB_len, true_and, and_true]
                try dsimp only [go_sem, Nat.reduceAdd, Nat.reduceMul, Nat.reduceSub, Nat.reduceBEq, Nat.reduceLeDiff, Nat.reduceEqDiff, ↓dreduceIte, toG]
                try simp (disch := first | omega | (simp only [List.length_set, List.length_append, List.length_cons, List.length_nil, List.length_replicate]; omega)) only [guardP_T, guardP_pos, iteN, rd_set, List.set_set, List.length_set, eta_fact, eta_rumor, eta_doubt, eta_item, eta_rec, eta_due, look, look0, rd_toNat, wrap64, Int.toNat_natCast, Nat.zero_add, List.take_length, List.drop_zero, and_self, setB_len, true_and, and_true]
                with_reducible refine hR _ ?_)
           clear hR R)
        | (with_reducible refine kon_g_run ?_ ?_
           · dsimp only [nth] <;> with_reducible rfl)
        | (with_reducible refine kon_g_skip ?_ ?_
           · dsimp only [nth, not_t', not_f'] <;> with_reducible rfl
           dsimp only [go_sem])
        | (with_reducible refine kon_g_undef ?_ ?_
           · dsimp only [nth] <;> with_reducible rfl
           dsimp only [go_sem])
        | (with_reducible refine kon_g fun R hR => ?_
           dsimp only [go_sem, Nat.reduceAdd, Nat.reduceMul, Nat.reduceSub, Nat.reduceBEq, Nat.reduceLeDiff, Nat.reduceEqDiff, ↓dreduceIte, toG]
           split <;> (rename_i hb; with_reducible refine hR _ ?_; clear hR R; try simp only [hb]; try simp only [decide_eq_true_eq, decide_eq_false_iff_not, beq_iff_eq, beq_eq_false_iff_ne, bne_iff_ne, bne_eq_false_iff_eq, Bool.not_eq_true, Bool.not_eq_false, Bool.not_eq_eq_eq_not, Bool.not_true, Bool.not_false, ne_eq, Int.not_lt, Int.not_le, eq_self, not_true_eq_false, not_false_eq_true, decide_true, decide_false, Bool.and_eq_true, Bool.or_eq_true, Bool.and_eq_false_iff, Bool.or_eq_false_iff, gt_iff_lt, ge_iff_le, Bool.false_eq_true, Bool.true_eq_false, reduceCtorEq, or_false, false_or, or_true, true_or, false_and, and_false] at hb; try (exfalso; omega)))
        | (with_reducible refine kon_cond fun R1 R2 h1 h2 => ?_
           dsimp only [go_sem]
           first
             | (with_reducible refine h1 ?_; clear h1 h2 R1 R2)
             | (with_reducible refine h2 ?_; clear h1 h2 R1 R2)
             | ((split <;> rename_i hb <;> first
                 | (with_reducible refine h1 ?_; clear h1 h2 R1 R2; try simp only [hb])
                 | (with_reducible refine h2 ?_; clear h1 h2 R1 R2; try simp only [hb])) <;> (try simp only [decide_eq_true_eq, decide_eq_false_iff_not, beq_iff_eq, beq_eq_false_iff_ne, bne_iff_ne, bne_eq_false_iff_eq, Bool.not_eq_true, Bool.not_eq_false, Bool.not_eq_eq_eq_not, Bool.not_true, Bool.not_false, ne_eq, Int.not_lt, Int.not_le, eq_self, not_true_eq_false, not_false_eq_true, decide_true, decide_false, Bool.and_eq_true, Bool.or_eq_true, Bool.and_eq_false_iff, Bool.or_eq_false_iff, gt_iff_lt, ge_iff_le, Bool.false_eq_true, Bool.true_eq_false, reduceCtorEq, or_false, false_or, or_true, true_or, false_and, and_false] at hb; try (exfalso; omega))))
      all_goals first
        | (dsimp only [kon]
           with_reducible refine hQ _ _ _ ?_
           dsimp only [kon, endQ, af80, conEqFact, go_sem, Nat.reduceAdd, Nat.reduceMul, Nat.reduceSub, Nat.reduceBEq, Nat.reduceLeDiff, Nat.reduceEqDiff, ↓dreduceIte, toG]
           try simp (disch := first | omega | (simp only [List.length_set, List.length_append, List.length_cons, List.length_nil, List.length_replicate]; omega)) only [guardP_T, guardP_pos, iteN, rd_set, List.set_set, List.length_set, eta_fact, eta_rumor, eta_doubt, eta_item, eta_rec, eta_due, look, look0, rd_toNat, wrap64, Int.toNat_natCast, Nat.zero_add, List.take_length, List.drop_zero, and_self, setB_len, true_and, and_true]
           try dsimp only [go_sem, Nat.reduceAdd, Nat.reduceMul, Nat.reduceSub, Nat.reduceBEq, Nat.reduceLeDiff, Nat.reduceEqDiff, ↓dreduceIte, toG])
        | skip
      all_goals try first
        | omega
        | (simp; done)
        | (simp; omega)
      all_goals (simp_all)
    · simp at h'

def conToFactS : Con := ⟨[.imm .fact], .own .fact, fun as => match as with
  | [.sl .fact l] => guardP (l.length ≤ 1048576 ∧ True) (some (.own .fact l, []))
  | _ => none⟩

def tb92 : Tab := fun f => match f with
  | 157 => some conToFact
  | _ => none

theorem tb92_157 : tb92 157 = some conToFact := rfl

-- loop.example/g00678/laws.toFactS hows []
def lp92_0 : AC := .seq (.seq (.reg [⟨some 8, .mv (.t 4), none⟩,
        ⟨some 9, .mv (.t 0), none⟩,
        ⟨some 10, .len (.t 9), none⟩,
        ⟨some 11, .bin .lss (.t 8) (.t 10), none⟩])
      (.cond (.t 11)
        (.skip)
        (.exit 0)))
      (.seq (.block 1 (.reg [⟨some 14, .mv (.t 3), none⟩,
          ⟨some 15, .mv (.t 4), none⟩,
          ⟨some 16, .mv (.t 0), none⟩,
          ⟨some 17, .mv (.t 4), none⟩,
          ⟨some 18, .ia .fact (.t 16) (.t 17), none⟩,
          ⟨some 19, .ld true 3 (.t 18), none⟩,
          ⟨some 20, .call 157 [(.t 19)], none⟩,
          ⟨some 21, .ia .fact (.t 14) (.t 15), none⟩,
          ⟨none, .st 3 (.t 21) (.t 20), none⟩]))
      (.reg [⟨some 12, .mv (.t 4), none⟩,
        ⟨some 13, .bin .add (.t 12) (.i 1), none⟩,
        ⟨some 4, .mv (.t 13), none⟩]))
def af92 : AF := ⟨23, [.t 2],
  .seq (.reg [⟨some 2, .mv (.c (.nil)), none⟩])
  (.seq (.reg [⟨some 5, .mv (.t 0), none⟩,
    ⟨some 6, .len (.t 5), none⟩,
    ⟨some 7, .mk .fact (zeroK .fact) (.t 6) (.t 6), none⟩,
    ⟨some 3, .mv (.t 7), none⟩])
  (.seq (.seq (.reg [⟨some 4, .mv (.i 0), none⟩])
  (.block 0 (.loop lp92_0)))
  (.seq (.reg [⟨some 22, .mv (.t 3), none⟩,
    ⟨some 2, .mv (.t 22), none⟩])
  (.ret))))⟩

set_option maxHeartbeats 4000000 in
theorem does92 (as : List AV) (hok : ok 64 as) : Does tb92 af92 conToFactS as := by
  cases h : (conToFactS).run as with
  | none => exact does_none h
  | some out =>
    have h' := h
    simp only [conToFactS] at h'
    split at h'
    · rename_i l
      by_cases hp : l.length ≤ 1048576 ∧ True
      case neg => simp [guardP, hp] at h'
      rw [guardP_pos hp] at h'
      obtain ⟨hp1, _⟩ := hp
      simp only [Option.some.injEq] at h'
      subst h'
      have hmo : (most : Int) = 1099511627776 := rfl
      have hml : (maxLen : Int) = 9223372036854775807 := rfl
      with_reducible refine does_by h fun Q hQ => ?_
      clear h
      dsimp only [af92, conToFactS, go_sem, Nat.reduceAdd, Nat.reduceMul, Nat.reduceSub, Nat.reduceBEq, Nat.reduceLeDiff, Nat.reduceEqDiff, ↓dreduceIte, toG, tb92_157, conToFact]
      repeat' first
        | with_reducible refine kon_seq ?_
        | with_reducible refine kon_nil ?_
        | with_reducible refine kon_any ?_ ?_
        | with_reducible exact kon_any_nil
        | with_reducible refine kon_skip ?_
        | with_reducible refine kon_block ?_
        | with_reducible refine kon_ret ?_
        | with_reducible refine kon_exit ?_
        | with_reducible refine kon_past_ret ?_
        | with_reducible refine kon_past_exit ?_
        | with_reducible refine kon_blk_ret ?_
        | with_reducible refine kon_blk_end ?_
        | with_reducible refine kon_blk_exit ?_
        | (with_reducible refine kon_blk_past ?_ ?_
           · decide)
        | with_reducible refine loop_exit ?_
        | with_reducible refine loop_ret ?_
        | with_reducible refine mid_exit ?_
        | with_reducible refine mid_ret ?_
        | ((first | with_reducible refine kon_bin fun R hR => ?_ | with_reducible refine kon_conv fun R hR => ?_)
           dsimp only [go_sem, Nat.reduceAdd, Nat.reduceMul, Nat.reduceSub, Nat.reduceBEq, Nat.reduceLeDiff, Nat.reduceEqDiff, ↓dreduceIte, toG, tb92_157, conToFact]
           try simp (disch := first | omega | (simp only [List.length_set, List.length_append, List.length_cons, List.length_nil, List.length_replicate]; omega)) only [guardP_T, guardP_pos, iteN, rd_set, List.set_set, List.length_set, eta_fact, eta_rumor, eta_doubt, eta_item, eta_rec, eta_due, look, look0, rd_toNat, wrap64, Int.toNat_natCast, Nat.zero_add, List.take_length, List.drop_zero, and_self, setB_len, true_and, and_true]
           with_reducible refine hR _ ?_
           clear hR R)
        | (with_reducible refine kon_ins fun R hR => ?_
           dsimp only [go_sem, Nat.reduceAdd, Nat.reduceMul, Nat.reduceSub, Nat.reduceBEq, Nat.reduceLeDiff, Nat.reduceEqDiff, ↓dreduceIte, toG, tb92_157, conToFact]
           first
             | with_reducible refine hR _ ?_
             | (simp (disch := first | omega | (simp only [List.length_set, List.length_append, List.length_cons, List.length_nil, List.length_replicate]; omega)) only [guardP_T, guardP_pos, iteN, rd_set, List.set_set, List.length_set, eta_fact, eta_rumor, eta_doubt, eta_item, eta_rec, eta_due, look, look0, rd_toNat, wrap64, Int.toNat_natCast, Nat.zero_add, List.take_length, List.drop_zero, and_self, setB_len, true_and, and_true]
                try dsimp only [go_sem, Nat.reduceAdd, Nat.reduceMul, Nat.reduceSub, Nat.reduceBEq, Nat.reduceLeDiff, Nat.reduceEqDiff, ↓dreduceIte, toG, tb92_157, conToFact]
                try simp (disch := first | omega | (simp only [List.length_set, List.length_append, List.length_cons, List.length_nil, List.length_replicate]; omega)) only [guardP_T, guardP_pos, iteN, rd_set, List.set_set, List.length_set, eta_fact, eta_rumor, eta_doubt, eta_item, eta_rec, eta_due, look, look0, rd_toNat, wrap64, Int.toNat_natCast, Nat.zero_add, List.take_length, List.drop_zero, and_self, setB_len, true_and, and_true]
                with_reducible refine hR _ ?_)
           clear hR R)
        | (with_reducible refine kon_g_run ?_ ?_
           · dsimp only [nth] <;> with_reducible rfl)
        | (with_reducible refine kon_g_skip ?_ ?_
           · dsimp only [nth, not_t', not_f'] <;> with_reducible rfl
           dsimp only [go_sem])
        | (with_reducible refine kon_g_undef ?_ ?_
           · dsimp only [nth] <;> with_reducible rfl
           dsimp only [go_sem])
        | (with_reducible refine kon_g fun R hR => ?_
           dsimp only [go_sem, Nat.reduceAdd, Nat.reduceMul, Nat.reduceSub, Nat.reduceBEq, Nat.reduceLeDiff, Nat.reduceEqDiff, ↓dreduceIte, toG, tb92_157, conToFact]
           split <;> (rename_i hb; with_reducible refine hR _ ?_; clear hR R; try simp only [hb]; try simp only [decide_eq_true_eq, decide_eq_false_iff_not, beq_iff_eq, beq_eq_false_iff_ne, bne_iff_ne, bne_eq_false_iff_eq, Bool.not_eq_true, Bool.not_eq_false, Bool.not_eq_eq_eq_not, Bool.not_true, Bool.not_false, ne_eq, Int.not_lt, Int.not_le, eq_self, not_true_eq_false, not_false_eq_true, decide_true, decide_false, Bool.and_eq_true, Bool.or_eq_true, Bool.and_eq_false_iff, Bool.or_eq_false_iff, gt_iff_lt, ge_iff_le, Bool.false_eq_true, Bool.true_eq_false, reduceCtorEq, or_false, false_or, or_true, true_or, false_and, and_false] at hb; try (exfalso; omega)))
        | (with_reducible refine kon_cond fun R1 R2 h1 h2 => ?_
           dsimp only [go_sem]
           first
             | (with_reducible refine h1 ?_; clear h1 h2 R1 R2)
             | (with_reducible refine h2 ?_; clear h1 h2 R1 R2)
             | ((split <;> rename_i hb <;> first
                 | (with_reducible refine h1 ?_; clear h1 h2 R1 R2; try simp only [hb])
                 | (with_reducible refine h2 ?_; clear h1 h2 R1 R2; try simp only [hb])) <;> (try simp only [decide_eq_true_eq, decide_eq_false_iff_not, beq_iff_eq, beq_eq_false_iff_ne, bne_iff_ne, bne_eq_false_iff_eq, Bool.not_eq_true, Bool.not_eq_false, Bool.not_eq_eq_eq_not, Bool.not_true, Bool.not_false, ne_eq, Int.not_lt, Int.not_le, eq_self, not_true_eq_false, not_false_eq_true, decide_true, decide_false, Bool.and_eq_true, Bool.or_eq_true, Bool.and_eq_false_iff, Bool.or_eq_false_iff, gt_iff_lt, ge_iff_le, Bool.false_eq_true, Bool.true_eq_false, reduceCtorEq, or_false, false_or, or_true, true_or, false_and, and_false] at hb; try (exfalso; omega))))
        | (with_reducible refine kon_rounds (a := lp92_0) [0, 3, 4] (fun n9 s9 => ∃ (i : Int) (o : List Fact), ((0 ≤ i) ∧ (i ≤ l.length) ∧ (o.length = l.length) ∧ (o = l.take i.toNat ++ (List.replicate l.length (⟨0, 0, 0⟩ : Fact)).drop i.toNat)) ∧ n9 = (l.length - i).toNat ∧ s9.m = [.row 0 .fact o] ∧ s9.t = [.sl .fact l, nth s9.t 1, nth s9.t 2, .ms 0 0 0 l.length, .int .i64 i, nth s9.t 5, nth s9.t 6, nth s9.t 7, nth s9.t 8, nth s9.t 9, nth s9.t 10, nth s9.t 11, nth s9.t 12, nth s9.t 13, nth s9.t 14, nth s9.t 15, nth s9.t 16, nth s9.t 17, nth s9.t 18, nth s9.t 19, nth s9.t 20, nth s9.t 21, nth s9.t 22]) ?_ ?_
           all_goals first
             | (rintro n9 ⟨t9, m9⟩ ⟨i, o, ⟨hI0, hI1, hI2, hI3⟩, rfl, hm9, ht9⟩
                dsimp only at hm9 ht9
                subst hm9
                rw [ht9]
                clear ht9
                dsimp only [lp92_0])
             | (dsimp only [go_sem, Nat.reduceAdd, Nat.reduceMul, Nat.reduceSub, Nat.reduceBEq, Nat.reduceLeDiff, Nat.reduceEqDiff, ↓dreduceIte, toG, tb92_157, conToFact]
                refine ⟨_, _, _, ⟨?_, ?_, ?_, ?_⟩, rfl, rfl, rfl⟩))
        | (with_reducible refine loop_again (keep := [0, 3, 4]) ?_
           dsimp only [go_sem, Nat.reduceAdd, Nat.reduceMul, Nat.reduceSub, Nat.reduceBEq, Nat.reduceLeDiff, Nat.reduceEqDiff, ↓dreduceIte, toG, tb92_157, conToFact]
           refine ⟨_, ?_, _, _, ⟨?_, ?_, ?_, ?_⟩, rfl, rfl, rfl⟩)
      all_goals first
        | (dsimp only [kon]
           with_reducible refine hQ _ _ _ ?_
           dsimp only [kon, endQ, af92, conToFactS, go_sem, Nat.reduceAdd, Nat.reduceMul, Nat.reduceSub, Nat.reduceBEq, Nat.reduceLeDiff, Nat.reduceEqDiff, ↓dreduceIte, toG, tb92_157, conToFact]
           try simp (disch := first | omega | (simp only [List.length_set, List.length_append, List.length_cons, List.length_nil, List.length_replicate]; omega)) only [guardP_T, guardP_pos, iteN, rd_set, List.set_set, List.length_set, eta_fact, eta_rumor, eta_doubt, eta_item, eta_rec, eta_due, look, look0, rd_toNat, wrap64, Int.toNat_natCast, Nat.zero_add, List.take_length, List.drop_zero, and_self, setB_len, true_and, and_true]
           try dsimp only [go_sem, Nat.reduceAdd, Nat.reduceMul, Nat.reduceSub, Nat.reduceBEq, Nat.reduceLeDiff, Nat.reduceEqDiff, ↓dreduceIte, toG, tb92_157, conToFact])
        | skip
      all_goals try first
        | omega
        | (simp; done)
        | (simp; omega)
      all_goals first
        | (simp [hI2]; done)
        | (rw [hI3, take_rd (by omega) (by omega), fill_rd (by omega) (by simp; omega) (by simp; omega)])
        | (rw [hI3, take_all (by omega), drop_all (by simp; omega), List.append_nil])
    · simp at h'

def conEqFactS : Con := ⟨[.imm .fact, .imm .fact], .v, fun as => match as with
  | [.sl .fact a, .sl .fact b] => some (.bool (decide (a = b)), [])
  | _ => none⟩

def tb29 : Tab := fun f => match f with
  | 80 => some conEqFact
  | _ => none

theorem tb29_80 : tb29 80 = some conEqFact := rfl

-- loop.example/g00678/laws.eqFactS hows [(6, [.any, .any, .any, .any, .any, .any, .any, .any, .pure, .any], [])]
def lp29_0 : AC := .seq (.seq (.reg [⟨some 11, .mv (.t 5), none⟩,
        ⟨some 12, .mv (.t 0), none⟩,
        ⟨some 13, .len (.t 12), none⟩,
        ⟨some 14, .bin .lss (.t 11) (.t 13), none⟩])
      (.cond (.t 14)
        (.skip)
        (.exit 0)))
      (.seq (.block 1 (.seq (.reg [⟨some 17, .mv (.t 0), none⟩,
          ⟨some 18, .mv (.t 5), none⟩,
          ⟨some 19, .ia .fact (.t 17) (.t 18), none⟩,
          ⟨some 20, .ld true 3 (.t 19), none⟩,
          ⟨some 21, .mv (.t 1), none⟩,
          ⟨some 22, .mv (.t 5), none⟩,
          ⟨some 23, .ia .fact (.t 21) (.t 22), none⟩,
          ⟨some 24, .ld true 3 (.t 23), none⟩,
          ⟨some 25, .callp 80 [(.t 20), (.t 24)], none⟩,
          ⟨some 26, .un .not (.t 25), none⟩])
        (.cond (.t 26)
          (.seq (.reg [⟨some 4, .mv (.b false), none⟩])
          (.ret))
          (.skip))))
      (.reg [⟨some 15, .mv (.t 5), none⟩,
        ⟨some 16, .bin .add (.t 15) (.i 1), none⟩,
        ⟨some 5, .mv (.t 16), none⟩]))
def af29 : AF := ⟨27, [.t 4],
  .seq (.reg [⟨some 4, .mv (.b false), none⟩])
  (.seq (.seq (.reg [⟨some 6, .mv (.t 0), none⟩,
    ⟨some 7, .len (.t 6), none⟩,
    ⟨some 8, .mv (.t 1), none⟩,
    ⟨some 9, .len (.t 8), none⟩,
    ⟨some 10, .bin .neq (.t 7) (.t 9), none⟩])
  (.cond (.t 10)
    (.seq (.reg [⟨some 4, .mv (.b false), none⟩])
    (.ret))
    (.skip)))
  (.seq (.seq (.reg [⟨some 5, .mv (.i 0), none⟩])
  (.block 0 (.loop lp29_0)))
  (.seq (.reg [⟨some 4, .mv (.b true), none⟩])
  (.ret))))⟩

set_option maxHeartbeats 4000000 in
theorem does29 (as : List AV) (hok : ok 64 as) : Does tb29 af29 conEqFactS as := by
  cases h : (conEqFactS).run as with
  | none => exact does_none h
  | some out =>
    have h' := h
    simp only [conEqFactS] at h'
    split at h'
    · rename_i a b
      simp only [ok] at hok
      obtain ⟨⟨ha, _⟩, ⟨hb, _⟩, _⟩ := hok
      simp only [Option.some.injEq] at h'
      subst h'
      have hmo : (most : Int) = 1099511627776 := rfl
      have hml : (maxLen : Int) = 9223372036854775807 := rfl
      with_reducible refine does_by h fun Q hQ => ?_
      clear h
      dsimp only [af29, conEqFactS, go_sem, Nat.reduceAdd, Nat.reduceMul, Nat.reduceSub, Nat.reduceBEq, Nat.reduceLeDiff, Nat.reduceEqDiff, ↓dreduceIte, toG, tb29_80, conEqFact]
      repeat' first
        | with_reducible refine kon_seq ?_
        | with_reducible refine kon_nil ?_
        | with_reducible refine kon_any ?_ ?_
        | with_reducible exact kon_any_nil
        | with_reducible refine kon_skip ?_
        | with_reducible refine kon_block ?_
        | with_reducible refine kon_ret ?_
        | with_reducible refine kon_exit ?_
        | with_reducible refine kon_past_ret ?_
        | with_reducible refine kon_past_exit ?_
        | with_reducible refine kon_blk_ret ?_
        | with_reducible refine kon_blk_end ?_
        | with_reducible refine kon_blk_exit ?_
        | (with_reducible refine kon_blk_past ?_ ?_
           · decide)
        | with_reducible refine loop_exit ?_
        | with_reducible refine loop_ret ?_
        | with_reducible refine mid_exit ?_
        | with_reducible refine mid_ret ?_
        | ((first | with_reducible refine kon_bin fun R hR => ?_ | with_reducible refine kon_conv fun R hR => ?_)
           dsimp only [go_sem, Nat.reduceAdd, Nat.reduceMul, Nat.reduceSub, Nat.reduceBEq, Nat.reduceLeDiff, Nat.reduceEqDiff, ↓dreduceIte, toG, tb29_80, conEqFact]
           try simp (disch := first | omega | (simp only [List.length_set, List.length_append, List.length_cons, List.length_nil, List.length_replicate]; omega)) only [guardP_T, guardP_pos, iteN, rd_set, List.set_set, List.length_set, eta_fact, eta_rumor, eta_doubt, eta_item, eta_rec, eta_due, look, look0, rd_toNat, wrap64, Int.toNat_natCast, Nat.zero_add, List.take_length, List.drop_zero, and_self, setB_len, true_and, and_true]
           with_reducible refine hR _ ?_
           clear hR R)
        | (with_reducible refine kon_ins fun R hR => ?_
           dsimp only [go_sem, Nat.reduceAdd, Nat.reduceMul, Nat.reduceSub, Nat.reduceBEq, Nat.reduceLeDiff, Nat.reduceEqDiff, ↓dreduceIte, toG, tb29_80, conEqFact]
           first
             | with_reducible refine hR _ ?_
             | (simp (disch := first | omega | (simp only [List.length_set, List.length_append, List.length_cons, List.length_nil, List.length_replicate]; omega)) only [guardP_T, guardP_pos, iteN, rd_set, List.set_set, List.length_set, eta_fact, eta_rumor, eta_doubt, eta_item, eta_rec, eta_due, look, look0, rd_toNat, wrap64, Int.toNat_natCast, Nat.zero_add, List.take_length, List.drop_zero, and_self, setB_len, true_and, and_true]
                try dsimp only [go_sem, Nat.reduceAdd, Nat.reduceMul, Nat.reduceSub, Nat.reduceBEq, Nat.reduceLeDiff, Nat.reduceEqDiff, ↓dreduceIte, toG, tb29_80, conEqFact]
                try simp (disch := first | omega | (simp only [List.length_set, List.length_append, List.length_cons, List.length_nil, List.length_replicate]; omega)) only [guardP_T, guardP_pos, iteN, rd_set, List.set_set, List.length_set, eta_fact, eta_rumor, eta_doubt, eta_item, eta_rec, eta_due, look, look0, rd_toNat, wrap64, Int.toNat_natCast, Nat.zero_add, List.take_length, List.drop_zero, and_self, setB_len, true_and, and_true]
                with_reducible refine hR _ ?_)
           clear hR R)
        | (with_reducible refine kon_g_run ?_ ?_
           · dsimp only [nth] <;> with_reducible rfl)
        | (with_reducible refine kon_g_skip ?_ ?_
           · dsimp only [nth, not_t', not_f'] <;> with_reducible rfl
           dsimp only [go_sem])
        | (with_reducible refine kon_g_undef ?_ ?_
           · dsimp only [nth] <;> with_reducible rfl
           dsimp only [go_sem])
        | (with_reducible refine kon_g fun R hR => ?_
           dsimp only [go_sem, Nat.reduceAdd, Nat.reduceMul, Nat.reduceSub, Nat.reduceBEq, Nat.reduceLeDiff, Nat.reduceEqDiff, ↓dreduceIte, toG, tb29_80, conEqFact]
           split <;> (rename_i hb; with_reducible refine hR _ ?_; clear hR R; try simp only [hb]; try simp only [decide_eq_true_eq, decide_eq_false_iff_not, beq_iff_eq, beq_eq_false_iff_ne, bne_iff_ne, bne_eq_false_iff_eq, Bool.not_eq_true, Bool.not_eq_false, Bool.not_eq_eq_eq_not, Bool.not_true, Bool.not_false, ne_eq, Int.not_lt, Int.not_le, eq_self, not_true_eq_false, not_false_eq_true, decide_true, decide_false, Bool.and_eq_true, Bool.or_eq_true, Bool.and_eq_false_iff, Bool.or_eq_false_iff, gt_iff_lt, ge_iff_le, Bool.false_eq_true, Bool.true_eq_false, reduceCtorEq, or_false, false_or, or_true, true_or, false_and, and_false] at hb; try (exfalso; omega)))
        | (with_reducible refine kon_cond fun R1 R2 h1 h2 => ?_
           dsimp only [go_sem]
           first
             | (with_reducible refine h1 ?_; clear h1 h2 R1 R2)
             | (with_reducible refine h2 ?_; clear h1 h2 R1 R2)
             | ((split <;> rename_i hb <;> first
                 | (with_reducible refine h1 ?_; clear h1 h2 R1 R2; try simp only [hb])
                 | (with_reducible refine h2 ?_; clear h1 h2 R1 R2; try simp only [hb])) <;> (try simp only [decide_eq_true_eq, decide_eq_false_iff_not, beq_iff_eq, beq_eq_false_iff_ne, bne_iff_ne, bne_eq_false_iff_eq, Bool.not_eq_true, Bool.not_eq_false, Bool.not_eq_eq_eq_not, Bool.not_true, Bool.not_false, ne_eq, Int.not_lt, Int.not_le, eq_self, not_true_eq_false, not_false_eq_true, decide_true, decide_false, Bool.and_eq_true, Bool.or_eq_true, Bool.and_eq_false_iff, Bool.or_eq_false_iff, gt_iff_lt, ge_iff_le, Bool.false_eq_true, Bool.true_eq_false, reduceCtorEq, or_false, false_or, or_true, true_or, false_and, and_false] at hb; try (exfalso; omega))))
        | (with_reducible refine kon_rounds (a := lp29_0) [0, 1, 5] (fun n9 s9 => ∃ (i : Int), ((0 ≤ i) ∧ (i ≤ a.length) ∧ (a.take i.toNat = b.take i.toNat)) ∧ n9 = (a.length - i).toNat ∧ s9.m = [] ∧ s9.t = [.sl .fact a, .sl .fact b, nth s9.t 2, nth s9.t 3, nth s9.t 4, .int .i64 i, nth s9.t 6, nth s9.t 7, nth s9.t 8, nth s9.t 9, nth s9.t 10, nth s9.t 11, nth s9.t 12, nth s9.t 13, nth s9.t 14, nth s9.t 15, nth s9.t 16, nth s9.t 17, nth s9.t 18, nth s9.t 19, nth s9.t 20, nth s9.t 21, nth s9.t 22, nth s9.t 23, nth s9.t 24, nth s9.t 25, nth s9.t 26]) ?_ ?_
           all_goals first
             | (rintro n9 ⟨t9, m9⟩ ⟨i, ⟨hI0, hI1, hI2⟩, rfl, hm9, ht9⟩
                dsimp only at hm9 ht9
                subst hm9
                rw [ht9]
                clear ht9
                dsimp only [lp29_0])
             | (dsimp only [go_sem, Nat.reduceAdd, Nat.reduceMul, Nat.reduceSub, Nat.reduceBEq, Nat.reduceLeDiff, Nat.reduceEqDiff, ↓dreduceIte, toG, tb29_80, conEqFact]
                refine ⟨_, _, ⟨?_, ?_, ?_⟩, rfl, rfl, rfl⟩))
        | (with_reducible refine loop_again (keep := [0, 1, 5]) ?_
           dsimp only [go_sem, Nat.reduceAdd, Nat.reduceMul, Nat.reduceSub, Nat.reduceBEq, Nat.reduceLeDiff, Nat.reduceEqDiff, ↓dreduceIte, toG, tb29_80, conEqFact]
           refine ⟨_, ?_, _, ⟨?_, ?_, ?_⟩, rfl, rfl, rfl⟩)
      all_goals first
        | (dsimp only [kon]
           with_reducible refine hQ _ _ _ ?_
           dsimp only [kon, endQ, af29, conEqFactS, go_sem, Nat.reduceAdd, Nat.reduceMul, Nat.reduceSub, Nat.reduceBEq, Nat.reduceLeDiff, Nat.reduceEqDiff, ↓dreduceIte, toG, tb29_80, conEqFact]
           try simp (disch := first | omega | (simp only [List.length_set, List.length_append, List.length_cons, List.length_nil, List.length_replicate]; omega)) only [guardP_T, guardP_pos, iteN, rd_set, List.set_set, List.length_set, eta_fact, eta_rumor, eta_doubt, eta_item, eta_rec, eta_due, look, look0, rd_toNat, wrap64, Int.toNat_natCast, Nat.zero_add, List.take_length, List.drop_zero, and_self, setB_len, true_and, and_true]
           try dsimp only [go_sem, Nat.reduceAdd, Nat.reduceMul, Nat.reduceSub, Nat.reduceBEq, Nat.reduceLeDiff, Nat.reduceEqDiff, ↓dreduceIte, toG, tb29_80, conEqFact])
        | skip
      all_goals try first
        | omega
        | (simp; done)
        | (simp; omega)
      all_goals first
        | (rw [take_rd (by omega) (by omega), take_rd (by omega) (by omega), hI2]
           simp_all
           done)
        | (rw [take_rd (by omega) (by omega), take_rd (by omega) (by omega), hI2]
           cases hA : rd a i
           cases hB : rd b i
           simp_all
           done)
        | (have hne : a ≠ b := by
             rintro rfl
             simp_all
           simp [hne])
        | (rw [take_all (by omega), take_all (by omega)] at hI2
           simp [hI2])
    · simp at h'

def conSzFactS : Con := ⟨[.imm .fact, .v], .v, fun as => match as with
  | [.sl .fact l, .int .i64 n] => guardP (0 ≤ n ∧ n ≤ 1048576) (some (.int .i64 (szN n l.length), []))
  | _ => none⟩

-- loop.example/g00678/laws.szFactS hows []
def af81 : AF := ⟨12, [.t 4],
  .seq (.reg [⟨some 4, .mv (.i 0), none⟩])
  (.seq (.reg [⟨some 5, .mv (.t 1), none⟩,
    ⟨some 6, .mv (.t 0), none⟩,
    ⟨some 7, .len (.t 6), none⟩,
    ⟨some 8, .bin .sub (.t 5) (.t 7), none⟩,
    ⟨some 1, .mv (.t 8), none⟩])
  (.seq (.seq (.reg [⟨some 9, .mv (.t 1), none⟩,
    ⟨some 10, .bin .lss (.t 9) (.i 0), none⟩])
  (.cond (.t 10)
    (.seq (.reg [⟨some 4, .mv (.i (-1)), none⟩])
    (.ret))
    (.skip)))
  (.seq (.reg [⟨some 11, .mv (.t 1), none⟩,
    ⟨some 4, .mv (.t 11), none⟩])
  (.ret))))⟩

set_option maxHeartbeats 4000000 in
theorem does81 (as : List AV) (hok : ok 64 as) : Does tbNone af81 conSzFactS as := by
  cases h : (conSzFactS).run as with
  | none => exact does_none h
  | some out =>
    have h' := h
    simp only [conSzFactS] at h'
    split at h'
    · rename_i l n
      by_cases hp : 0 ≤ n ∧ n ≤ 1048576
      case neg => simp [guardP, hp] at h'
      rw [guardP_pos hp] at h'
      obtain ⟨hp1, hp2⟩ := hp
      simp only [ok] at hok
      obtain ⟨⟨ha, _⟩, _⟩ := hok
      simp only [Option.some.injEq] at h'
      subst h'
      have hmo : (most : Int) = 1099511627776 := rfl
      have hml : (maxLen : Int) = 9223372036854775807 := rfl
      with_reducible refine does_by h fun Q hQ => ?_
      clear h
      dsimp only [af81, conSzFactS, go_sem, Nat.reduceAdd, Nat.reduceMul, Nat.reduceSub, Nat.reduceBEq, Nat.reduceLeDiff, Nat.reduceEqDiff, ↓dreduceIte, toG]
      repeat' first
        | with_reducible refine kon_seq ?_
        | with_reducible refine kon_nil ?_
        | with_reducible refine kon_any ?_ ?_
        | with_reducible exact kon_any_nil
        | with_reducible refine kon_skip ?_
        | with_reducible refine kon_block ?_
        | with_reducible refine kon_ret ?_
        | with_reducible refine kon_exit ?_
        | with_reducible refine kon_past_ret ?_
        | with_reducible refine kon_past_exit ?_
        | with_reducible refine kon_blk_ret ?_
        | with_reducible refine kon_blk_end ?_
        | with_reducible refine kon_blk_exit ?_
        | (with_reducible refine kon_blk_past ?_ ?_
           · decide)
        | with_reducible refine loop_exit ?_
        | with_reducible refine loop_ret ?_
        | with_reducible refine mid_exit ?_
        | with_reducible refine mid_ret ?_
        | ((first | with_reducible refine kon_bin fun R hR => ?_ | with_reducible refine kon_conv fun R hR => ?_)
           dsimp only [go_sem, Nat.reduceAdd, Nat.reduceMul, Nat.reduceSub, Nat.reduceBEq, Nat.reduceLeDiff, Nat.reduceEqDiff, ↓dreduceIte, toG]
           try simp (disch := first | omega | (simp only [List.length_set, List.length_append, List.length_cons, List.length_nil, List.length_replicate]; omega)) only [guardP_T, guardP_pos, iteN, rd_set, List.set_set, List.length_set, eta_fact, eta_rumor, eta_doubt, eta_item, eta_rec, eta_due, look, look0, rd_toNat, wrap64, Int.toNat_natCast, Nat.zero_add, List.take_length, List.drop_zero, and_self, setB_len, true_and, and_true]
           with_reducible refine hR _ ?_
           clear hR R)
        | (with_reducible refine kon_ins fun R hR => ?_
           dsimp only [go_sem, Nat.reduceAdd, Nat.reduceMul, Nat.reduceSub, Nat.reduceBEq, Nat.reduceLeDiff, Nat.reduceEqDiff, ↓dreduceIte, toG]
           first
             | with_reducible refine hR _ ?_
             | (simp (disch := first | omega | (simp only [List.length_set, List.length_append, List.length_cons, List.length_nil, List.length_replicate]; omega)) only [guardP_T, guardP_pos, iteN, rd_set, List.set_set, List.length_set, eta_fact, eta_rumor, eta_doubt, eta_item, eta_rec, eta_due, look, look0, rd_toNat, wrap64, Int.toNat_natCast, Nat.zero_add, List.take_length, List.drop_zero, and_self, setB_len, true_and, and_true]
                try dsimp only [go_sem, Nat.reduceAdd, Nat.reduceMul, Nat.reduceSub, Nat.reduceBEq, Nat.reduceLeDiff, Nat.reduceEqDiff, ↓dreduceIte, toG]
                try simp (disch := first | omega | (simp only [List.length_set, List.length_append, List.length_cons, List.length_nil, List.length_replicate]; omega)) only [guardP_T, guardP_pos, iteN, rd_set, List.set_set, List.length_set, eta_fact, eta_rumor, eta_doubt, eta_item, eta_rec, eta_due, look, look0, rd_toNat, wrap64, Int.toNat_natCast, Nat.zero_add, List.take_length, List.drop_zero, and_self, setB_len, true_and, and_true]
                with_reducible refine hR _ ?_)
           clear hR R)
        | (with_reducible refine kon_g_run ?_ ?_
           · dsimp only [nth] <;> with_reducible rfl)
        | (with_reducible refine kon_g_skip ?_ ?_
           · dsimp only [nth, not_t', not_f'] <;> with_reducible rfl
           dsimp only [go_sem])
        | (with_reducible refine kon_g_undef ?_ ?_
           · dsimp only [nth] <;> with_reducible rfl
           dsimp only [go_sem])
        | (with_reducible refine kon_g fun R hR => ?_
           dsimp only [go_sem, Nat.reduceAdd, Nat.reduceMul, Nat.reduceSub, Nat.reduceBEq, Nat.reduceLeDiff, Nat.reduceEqDiff, ↓dreduceIte, toG]
           split <;> (rename_i hb; with_reducible refine hR _ ?_; clear hR R; try simp only [hb]; try simp only [decide_eq_true_eq, decide_eq_false_iff_not, beq_iff_eq, beq_eq_false_iff_ne, bne_iff_ne, bne_eq_false_iff_eq, Bool.not_eq_true, Bool.not_eq_false, Bool.not_eq_eq_eq_not, Bool.not_true, Bool.not_false, ne_eq, Int.not_lt, Int.not_le, eq_self, not_true_eq_false, not_false_eq_true, decide_true, decide_false, Bool.and_eq_true, Bool.or_eq_true, Bool.and_eq_false_iff, Bool.or_eq_false_iff, gt_iff_lt, ge_iff_le, Bool.false_eq_true, Bool.true_eq_false, reduceCtorEq, or_false, false_or, or_true, true_or, false_and, and_false] at hb; try (exfalso; omega)))
        | (with_reducible refine kon_cond fun R1 R2 h1 h2 => ?_
           dsimp only [go_sem]
           first
             | (with_reducible refine h1 ?_; clear h1 h2 R1 R2)
             | (with_reducible refine h2 ?_; clear h1 h2 R1 R2)
             | ((split <;> rename_i hb <;> first
                 | (with_reducible refine h1 ?_; clear h1 h2 R1 R2; try simp only [hb])
                 | (with_reducible refine h2 ?_; clear h1 h2 R1 R2; try simp only [hb])) <;> (try simp only [decide_eq_true_eq, decide_eq_false_iff_not, beq_iff_eq, beq_eq_false_iff_ne, bne_iff_ne, bne_eq_false_iff_eq, Bool.not_eq_true, Bool.not_eq_false, Bool.not_eq_eq_eq_not, Bool.not_true, Bool.not_false, ne_eq, Int.not_lt, Int.not_le, eq_self, not_true_eq_false, not_false_eq_true, decide_true, decide_false, Bool.and_eq_true, Bool.or_eq_true, Bool.and_eq_false_iff, Bool.or_eq_false_iff, gt_iff_lt, ge_iff_le, Bool.false_eq_true, Bool.true_eq_false, reduceCtorEq, or_false, false_or, or_true, true_or, false_and, and_false] at hb; try (exfalso; omega))))
      all_goals first
        | (dsimp only [kon]
           with_reducible refine hQ _ _ _ ?_
           dsimp only [kon, endQ, af81, conSzFactS, go_sem, Nat.reduceAdd, Nat.reduceMul, Nat.reduceSub, Nat.reduceBEq, Nat.reduceLeDiff, Nat.reduceEqDiff, ↓dreduceIte, toG]
           try simp (disch := first | omega | (simp only [List.length_set, List.length_append, List.length_cons, List.length_nil, List.length_replicate]; omega)) only [guardP_T, guardP_pos, iteN, rd_set, List.set_set, List.length_set, eta_fact, eta_rumor, eta_doubt, eta_item, eta_rec, eta_due, look, look0, rd_toNat, wrap64, Int.toNat_natCast, Nat.zero_add, List.take_length, List.drop_zero, and_self, setB_len, true_and, and_true]
           try dsimp only [go_sem, Nat.reduceAdd, Nat.reduceMul, Nat.reduceSub, Nat.reduceBEq, Nat.reduceLeDiff, Nat.reduceEqDiff, ↓dreduceIte, toG])
        | skip
      all_goals try first
        | omega
        | (simp; done)
        | (simp; omega)
      all_goals (simp only [szN, Option.some.injEq, Prod.mk.injEq, AV.int.injEq, and_true, true_and]; split <;> omega)
    · simp at h'

def conToRumor : Con := ⟨[.v], .v, fun as => match as with
  | [.agg [.int .i64 pa, .int .i64 pb, .int .i64 pc, .int .i64 pd]] => some (.agg [.int .i64 pa, .int .i64 pb, .int .i64 pc, .int .i64 pd], [])
  | _ => none⟩

-- loop.example/g00678/laws.toRumor hows []
def af158 : AF := ⟨12, [.cell 2 true 4],
  .seq (.reg [⟨some 1, .box (.t 0), none⟩,
    ⟨some 2, .box (.c (.agg [.int .i64 0, .int .i64 0, .int .i64 0, .int .i64 0])), none⟩])
  (.seq (.reg [⟨some 3, .box (.c (.agg [.int .i64 0, .int .i64 0, .int .i64 0, .int .i64 0])), none⟩])
  (.seq (.reg [⟨some 4, .fa 0 (.t 1), none⟩,
    ⟨some 5, .ld true 3 (.t 4), none⟩,
    ⟨some 6, .call 157 [(.t 5)], none⟩,
    ⟨some 7, .fa 0 (.t 3), none⟩,
    ⟨none, .st 3 (.t 7) (.t 6), none⟩])
  (.seq (.reg [⟨some 8, .fa 3 (.t 1), none⟩,
    ⟨some 9, .ld false 1 (.t 8), none⟩,
    ⟨some 10, .fa 3 (.t 3), none⟩,
    ⟨none, .st 1 (.t 10) (.t 9), none⟩])
  (.seq (.reg [⟨some 11, .ld true 4 (.t 3), none⟩,
    ⟨none, .st 4 (.t 2) (.t 11), none⟩])
  (.ret)))))⟩

set_option maxHeartbeats 4000000 in
theorem does158 (as : List AV) (hok : ok 64 as) : Does tb92 af158 conToRumor as := by
  cases h : (conToRumor).run as with
  | none => exact does_none h
  | some out =>
    have h' := h
    simp only [conToRumor] at h'
    split at h'
    · rename_i pa pb pc pd
      simp only [Option.some.injEq] at h'
      subst h'
      have hmo : (most : Int) = 1099511627776 := rfl
      have hml : (maxLen : Int) = 9223372036854775807 := rfl
      with_reducible refine does_by h fun Q hQ => ?_
      clear h
      dsimp only [af158, conToRumor, go_sem, Nat.reduceAdd, Nat.reduceMul, Nat.reduceSub, Nat.reduceBEq, Nat.reduceLeDiff, Nat.reduceEqDiff, ↓dreduceIte, toG, tb92_157, conToFact]
      repeat' first
        | with_reducible refine kon_seq ?_
        | with_reducible refine kon_nil ?_
        | with_reducible refine kon_any ?_ ?_
        | with_reducible exact kon_any_nil
        | with_reducible refine kon_skip ?_
        | with_reducible refine kon_block ?_
        | with_reducible refine kon_ret ?_
        | with_reducible refine kon_exit ?_
        | with_reducible refine kon_past_ret ?_
        | with_reducible refine kon_past_exit ?_
        | with_reducible refine kon_blk_ret ?_
        | with_reducible refine kon_blk_end ?_
        | with_reducible refine kon_blk_exit ?_
        | (with_reducible refine kon_blk_past ?_ ?_
           · decide)
        | with_reducible refine loop_exit ?_
        | with_reducible refine loop_ret ?_
        | with_reducible refine mid_exit ?_
        | with_reducible refine mid_ret ?_
        | ((first | with_reducible refine kon_bin fun R hR => ?_ | with_reducible refine kon_conv fun R hR => ?_)
           dsimp only [go_sem, Nat.reduceAdd, Nat.reduceMul, Nat.reduceSub, Nat.reduceBEq, Nat.reduceLeDiff, Nat.reduceEqDiff, ↓dreduceIte, toG, tb92_157, conToFact]
           try simp (disch := first | omega | (simp only [List.length_set, List.length_append, List.length_cons, List.length_nil, List.length_replicate]; omega)) only [guardP_T, guardP_pos, iteN, rd_set, List.set_set, List.length_set, eta_fact, eta_rumor, eta_doubt, eta_item, eta_rec, eta_due, look, look0, rd_toNat, wrap64, Int.toNat_natCast, Nat.zero_add, List.take_length, List.drop_zero, and_self, setB_len, true_and, and_true]
           with_reducible refine hR _ ?_
           clear hR R)
        | (with_reducible refine kon_ins fun R hR => ?_
           dsimp only [go_sem, Nat.reduceAdd, Nat.reduceMul, Nat.reduceSub, Nat.reduceBEq, Nat.reduceLeDiff, Nat.reduceEqDiff, ↓dreduceIte, toG, tb92_157, conToFact]
           first
             | with_reducible refine hR _ ?_
             | (simp (disch := first | omega | (simp only [List.length_set, List.length_append, List.length_cons, List.length_nil, List.length_replicate]; omega)) only [guardP_T, guardP_pos, iteN, rd_set, List.set_set, List.length_set, eta_fact, eta_rumor, eta_doubt, eta_item, eta_rec, eta_due, look, look0, rd_toNat, wrap64, Int.toNat_natCast, Nat.zero_add, List.take_length, List.drop_zero, and_self, setB_len, true_and, and_true]
                try dsimp only [go_sem, Nat.reduceAdd, Nat.reduceMul, Nat.reduceSub, Nat.reduceBEq, Nat.reduceLeDiff, Nat.reduceEqDiff, ↓dreduceIte, toG, tb92_157, conToFact]
                try simp (disch := first | omega | (simp only [List.length_set, List.length_append, List.length_cons, List.length_nil, List.length_replicate]; omega)) only [guardP_T, guardP_pos, iteN, rd_set, List.set_set, List.length_set, eta_fact, eta_rumor, eta_doubt, eta_item, eta_rec, eta_due, look, look0, rd_toNat, wrap64, Int.toNat_natCast, Nat.zero_add, List.take_length, List.drop_zero, and_self, setB_len, true_and, and_true]
                with_reducible refine hR _ ?_)
           clear hR R)
        | (with_reducible refine kon_g_run ?_ ?_
           · dsimp only [nth] <;> with_reducible rfl)
        | (with_reducible refine kon_g_skip ?_ ?_
           · dsimp only [nth, not_t', not_f'] <;> with_reducible rfl
           dsimp only [go_sem])
        | (with_reducible refine kon_g_undef ?_ ?_
           · dsimp only [nth] <;> with_reducible rfl
           dsimp only [go_sem])
        | (with_reducible refine kon_g fun R hR => ?_
           dsimp only [go_sem, Nat.reduceAdd, Nat.reduceMul, Nat.reduceSub, Nat.reduceBEq, Nat.reduceLeDiff, Nat.reduceEqDiff, ↓dreduceIte, toG, tb92_157, conToFact]
           split <;> (rename_i hb; with_reducible refine hR _ ?_; clear hR R; try simp only [hb]; try simp only [decide_eq_true_eq, decide_eq_false_iff_not, beq_iff_eq, beq_eq_false_iff_ne, bne_iff_ne, bne_eq_false_iff_eq, Bool.not_eq_true, Bool.not_eq_false, Bool.not_eq_eq_eq_not, Bool.not_true, Bool.not_false, ne_eq, Int.not_lt, Int.not_le, eq_self, not_true_eq_false, not_false_eq_true, decide_true, decide_false, Bool.and_eq_true, Bool.or_eq_true, Bool.and_eq_false_iff, Bool.or_eq_false_iff, gt_iff_lt, ge_iff_le, Bool.false_eq_true, Bool.true_eq_false, reduceCtorEq, or_false, false_or, or_true, true_or, false_and, and_false] at hb; try (exfalso; omega)))
        | (with_reducible refine kon_cond fun R1 R2 h1 h2 => ?_
           dsimp only [go_sem]
           first
             | (with_reducible refine h1 ?_; clear h1 h2 R1 R2)
             | (with_reducible refine h2 ?_; clear h1 h2 R1 R2)
             | ((split <;> rename_i hb <;> first
                 | (with_reducible refine h1 ?_; clear h1 h2 R1 R2; try simp only [hb])
                 | (with_reducible refine h2 ?_; clear h1 h2 R1 R2; try simp only [hb])) <;> (try simp only [decide_eq_true_eq, decide_eq_false_iff_not, beq_iff_eq, beq_eq_false_iff_ne, bne_iff_ne, bne_eq_false_iff_eq, Bool.not_eq_true, Bool.not_eq_false, Bool.not_eq_eq_eq_not, Bool.not_true, Bool.not_false, ne_eq, Int.not_lt, Int.not_le, eq_self, not_true_eq_false, not_false_eq_true, decide_true, decide_false, Bool.and_eq_true, Bool.or_eq_true, Bool.and_eq_false_iff, Bool.or_eq_false_iff, gt_iff_lt, ge_iff_le, Bool.false_eq_true, Bool.true_eq_false, reduceCtorEq, or_false, false_or, or_true, true_or, false_and, and_false] at hb; try (exfalso; omega))))
      all_goals first
        | (dsimp only [kon]
           with_reducible refine hQ _ _ _ ?_
           dsimp only [kon, endQ, af158, conToRumor, go_sem, Nat.reduceAdd, Nat.reduceMul, Nat.reduceSub, Nat.reduceBEq, Nat.reduceLeDiff, Nat.reduceEqDiff, ↓dreduceIte, toG, tb92_157, conToFact]
           try simp (disch := first | omega | (simp only [List.length_set, List.length_append, List.length_cons, List.length_nil, List.length_replicate]; omega)) only [guardP_T, guardP_pos, iteN, rd_set, List.set_set, List.length_set, eta_fact, eta_rumor, eta_doubt, eta_item, eta_rec, eta_due, look, look0, rd_toNat, wrap64, Int.toNat_natCast, Nat.zero_add, List.take_length, List.drop_zero, and_self, setB_len, true_and, and_true]
           try dsimp only [go_sem, Nat.reduceAdd, Nat.reduceMul, Nat.reduceSub, Nat.reduceBEq, Nat.reduceLeDiff, Nat.reduceEqDiff, ↓dreduceIte, toG, tb92_157, conToFact])
        | skip
      all_goals try first
        | omega
        | (simp; done)
        | (simp; omega)
      all_goals rfl
    · simp at h'

def conEqRumor : Con := ⟨[.v, .v], .v, fun as => match as with
  | [.agg [.int .i64 pa, .int .i64 pb, .int .i64 pc, .int .i64 pd], .agg [.int .i64 qa, .int .i64 qb, .int .i64 qc, .int .i64 qd]] => some (.bool (decide ((⟨⟨pa, pb, pc⟩, pd⟩ : Rumor) = (⟨⟨qa, qb, qc⟩, qd⟩ : Rumor))), [])
  | _ => none⟩

-- loop.example/g00678/laws.eqRumor hows []
def af161 : AF := ⟨16, [.t 4],
  .seq (.reg [⟨some 2, .box (.t 0), none⟩,
    ⟨some 3, .box (.t 1), none⟩,
    ⟨some 4, .mv (.b false), none⟩])
  (.seq (.seq (.reg [⟨some 5, .fa 0 (.t 2), none⟩,
    ⟨some 6, .ld true 3 (.t 5), none⟩,
    ⟨some 7, .fa 0 (.t 3), none⟩,
    ⟨some 8, .ld true 3 (.t 7), none⟩,
    ⟨some 9, .call 80 [(.t 6), (.t 8)], none⟩,
    ⟨some 10, .un .not (.t 9), none⟩])
  (.cond (.t 10)
    (.seq (.reg [⟨some 4, .mv (.b false), none⟩])
    (.ret))
    (.skip)))
  (.seq (.seq (.reg [⟨some 11, .fa 3 (.t 2), none⟩,
    ⟨some 12, .ld false 1 (.t 11), none⟩,
    ⟨some 13, .fa 3 (.t 3), none⟩,
    ⟨some 14, .ld false 1 (.t 13), none⟩,
    ⟨some 15, .bin .neq (.t 12) (.t 14), none⟩])
  (.cond (.t 15)
    (.seq (.reg [⟨some 4, .mv (.b false), none⟩])
    (.ret))
    (.skip)))
  (.seq (.reg [⟨some 4, .mv (.b true), none⟩])
  (.ret))))⟩

set_option maxHeartbeats 4000000 in
theorem does161 (as : List AV) (hok : ok 64 as) : Does tb29 af161 conEqRumor as := by
  cases h : (conEqRumor).run as with
  | none => exact does_none h
  | some out =>
    have h' := h
    simp only [conEqRumor] at h'
    split at h'
    · rename_i pa pb pc pd qa qb qc qd
      simp only [Option.some.injEq] at h'
      subst h'
      have hmo : (most : Int) = 1099511627776 := rfl
      have hml : (maxLen : Int) = 9223372036854775807 := rfl
      with_reducible refine does_by h fun Q hQ => ?_
      clear h
      dsimp only [af161, conEqRumor, go_sem, Nat.reduceAdd, Nat.reduceMul, Nat.reduceSub, Nat.reduceBEq, Nat.reduceLeDiff, Nat.reduceEqDiff, ↓dreduceIte, toG, tb29_80, conEqFact]
      repeat' first
        | with_reducible refine kon_seq ?_
        | with_reducible refine kon_nil ?_
        | with_reducible refine kon_any ?_ ?_
        | with_reducible exact kon_any_nil
        | with_reducible refine kon_skip ?_
        | with_reducible refine kon_block ?_
        | with_reducible refine kon_ret ?_
        | with_reducible refine kon_exit ?_
        | with_reducible refine kon_past_ret ?_
        | with_reducible refine kon_past_exit ?_
        | with_reducible refine kon_blk_ret ?_
        | with_reducible refine kon_blk_end ?_
        | with_reducible refine kon_blk_exit ?_
        | (with_reducible refine kon_blk_past ?_ ?_
           · decide)
        | with_reducible refine loop_exit ?_
        | with_reducible refine loop_ret ?_
        | with_reducible refine mid_exit ?_
        | with_reducible refine mid_ret ?_
        | ((first | with_reducible refine kon_bin fun R hR => ?_ | with_reducible refine kon_conv fun R hR => ?_)
           dsimp only [go_sem, Nat.reduceAdd, Nat.reduceMul, Nat.reduceSub, Nat.reduceBEq, Nat.reduceLeDiff, Nat.reduceEqDiff, ↓dreduceIte, toG, tb29_80, conEqFact]
           try simp (disch := first | omega | (simp only [List.length_set, List.length_append, List.length_cons, List.length_nil, List.length_replicate]; omega)) only [guardP_T, guardP_pos, iteN, rd_set, List.set_set, List.length_set, eta_fact, eta_rumor, eta_doubt, eta_item, eta_rec, eta_due, look, look0, rd_toNat, wrap64, Int.toNat_natCast, Nat.zero_add, List.take_length, List.drop_zero, and_self, setB_len, true_and, and_true]
           with_reducible refine hR _ ?_
           clear hR R)
        | (with_reducible refine kon_ins fun R hR => ?_
           dsimp only [go_sem, Nat.reduceAdd, Nat.reduceMul, Nat.reduceSub, Nat.reduceBEq, Nat.reduceLeDiff, Nat.reduceEqDiff, ↓dreduceIte, toG, tb29_80, conEqFact]
           first
             | with_reducible refine hR _ ?_
             | (simp (disch := first | omega | (simp only [List.length_set, List.length_append, List.length_cons, List.length_nil, List.length_replicate]; omega)) only [guardP_T, guardP_pos, iteN, rd_set, List.set_set, List.length_set, eta_fact, eta_rumor, eta_doubt, eta_item, eta_rec, eta_due, look, look0, rd_toNat, wrap64, Int.toNat_natCast, Nat.zero_add, List.take_length, List.drop_zero, and_self, setB_len, true_and, and_true]
                try dsimp only [go_sem, Nat.reduceAdd, Nat.reduceMul, Nat.reduceSub, Nat.reduceBEq, Nat.reduceLeDiff, Nat.reduceEqDiff, ↓dreduceIte, toG, tb29_80, conEqFact]
                try simp (disch := first | omega | (simp only [List.length_set, List.length_append, List.length_cons, List.length_nil, List.length_replicate]; omega)) only [guardP_T, guardP_pos, iteN, rd_set, List.set_set, List.length_set, eta_fact, eta_rumor, eta_doubt, eta_item, eta_rec, eta_due, look, look0, rd_toNat, wrap64, Int.toNat_natCast, Nat.zero_add, List.take_length, List.drop_zero, and_self, setB_len, true_and, and_true]
                with_reducible refine hR _ ?_)
           clear hR R)
        | (with_reducible refine kon_g_run ?_ ?_
           · dsimp only [nth] <;> with_reducible rfl)
        | (with_reducible refine kon_g_skip ?_ ?_
           · dsimp only [nth, not_t', not_f'] <;> with_reducible rfl
           dsimp only [go_sem])
        | (with_reducible refine kon_g_undef ?_ ?_
           · dsimp only [nth] <;> with_reducible rfl
           dsimp only [go_sem])
        | (with_reducible refine kon_g fun R hR => ?_
           dsimp only [go_sem, Nat.reduceAdd, Nat.reduceMul, Nat.reduceSub, Nat.reduceBEq, Nat.reduceLeDiff, Nat.reduceEqDiff, ↓dreduceIte, toG, tb29_80, conEqFact]
           split <;> (rename_i hb; with_reducible refine hR _ ?_; clear hR R; try simp only [hb]; try simp only [decide_eq_true_eq, decide_eq_false_iff_not, beq_iff_eq, beq_eq_false_iff_ne, bne_iff_ne, bne_eq_false_iff_eq, Bool.not_eq_true, Bool.not_eq_false, Bool.not_eq_eq_eq_not, Bool.not_true, Bool.not_false, ne_eq, Int.not_lt, Int.not_le, eq_self, not_true_eq_false, not_false_eq_true, decide_true, decide_false, Bool.and_eq_true, Bool.or_eq_true, Bool.and_eq_false_iff, Bool.or_eq_false_iff, gt_iff_lt, ge_iff_le, Bool.false_eq_true, Bool.true_eq_false, reduceCtorEq, or_false, false_or, or_true, true_or, false_and, and_false] at hb; try (exfalso; omega)))
        | (with_reducible refine kon_cond fun R1 R2 h1 h2 => ?_
           dsimp only [go_sem]
           first
             | (with_reducible refine h1 ?_; clear h1 h2 R1 R2)
             | (with_reducible refine h2 ?_; clear h1 h2 R1 R2)
             | ((split <;> rename_i hb <;> first
                 | (with_reducible refine h1 ?_; clear h1 h2 R1 R2; try simp only [hb])
                 | (with_reducible refine h2 ?_; clear h1 h2 R1 R2; try simp only [hb])) <;> (try simp only [decide_eq_true_eq, decide_eq_false_iff_not, beq_iff_eq, beq_eq_false_iff_ne, bne_iff_ne, bne_eq_false_iff_eq, Bool.not_eq_true, Bool.not_eq_false, Bool.not_eq_eq_eq_not, Bool.not_true, Bool.not_false, ne_eq, Int.not_lt, Int.not_le, eq_self, not_true_eq_false, not_false_eq_true, decide_true, decide_false, Bool.and_eq_true, Bool.or_eq_true, Bool.and_eq_false_iff, Bool.or_eq_false_iff, gt_iff_lt, ge_iff_le, Bool.false_eq_true, Bool.true_eq_false, reduceCtorEq, or_false, false_or, or_true, true_or, false_and, and_false] at hb; try (exfalso; omega))))
      all_goals first
        | (dsimp only [kon]
           with_reducible refine hQ _ _ _ ?_
           dsimp only [kon, endQ, af161, conEqRumor, go_sem, Nat.reduceAdd, Nat.reduceMul, Nat.reduceSub, Nat.reduceBEq, Nat.reduceLeDiff, Nat.reduceEqDiff, ↓dreduceIte, toG, tb29_80, conEqFact]
           try simp (disch := first | omega | (simp only [List.length_set, List.length_append, List.length_cons, List.length_nil, List.length_replicate]; omega)) only [guardP_T, guardP_pos, iteN, rd_set, List.set_set, List.length_set, eta_fact, eta_rumor, eta_doubt, eta_item, eta_rec, eta_due, look, look0, rd_toNat, wrap64, Int.toNat_natCast, Nat.zero_add, List.take_length, List.drop_zero, and_self, setB_len, true_and, and_true]
           try dsimp only [go_sem, Nat.reduceAdd, Nat.reduceMul, Nat.reduceSub, Nat.reduceBEq, Nat.reduceLeDiff, Nat.reduceEqDiff, ↓dreduceIte, toG, tb29_80, conEqFact])
        | skip
      all_goals try first
        | omega
        | (simp; done)
        | (simp; omega)
      all_goals (simp_all)
    · simp at h'

def conToRumorS : Con := ⟨[.imm .rumor], .own .rumor, fun as => match as with
  | [.sl .rumor l] => guardP (l.length ≤ 1048576 ∧ True) (some (.own .rumor l, []))
  | _ => none⟩

def tb93 : Tab := fun f => match f with
  | 158 => some conToRumor
  | _ => none

theorem tb93_158 : tb93 158 = some conToRumor := rfl

-- loop.example/g00678/laws.toRumorS hows []
def lp93_0 : AC := .seq (.seq (.reg [⟨some 8, .mv (.t 4), none⟩,
        ⟨some 9, .mv (.t 0), none⟩,
        ⟨some 10, .len (.t 9), none⟩,
        ⟨some 11, .bin .lss (.t 8) (.t 10), none⟩])
      (.cond (.t 11)
        (.skip)
        (.exit 0)))
      (.seq (.block 1 (.reg [⟨some 14, .mv (.t 3), none⟩,
          ⟨some 15, .mv (.t 4), none⟩,
          ⟨some 16, .mv (.t 0), none⟩,
          ⟨some 17, .mv (.t 4), none⟩,
          ⟨some 18, .ia .rumor (.t 16) (.t 17), none⟩,
          ⟨some 19, .ld true 4 (.t 18), none⟩,
          ⟨some 20, .call 158 [(.t 19)], none⟩,
          ⟨some 21, .ia .rumor (.t 14) (.t 15), none⟩,
          ⟨none, .st 4 (.t 21) (.t 20), none⟩]))
      (.reg [⟨some 12, .mv (.t 4), none⟩,
        ⟨some 13, .bin .add (.t 12) (.i 1), none⟩,
        ⟨some 4, .mv (.t 13), none⟩]))
def af93 : AF := ⟨23, [.t 2],
  .seq (.reg [⟨some 2, .mv (.c (.nil)), none⟩])
  (.seq (.reg [⟨some 5, .mv (.t 0), none⟩,
    ⟨some 6, .len (.t 5), none⟩,
    ⟨some 7, .mk .rumor (zeroK .rumor) (.t 6) (.t 6), none⟩,
    ⟨some 3, .mv (.t 7), none⟩])
  (.seq (.seq (.reg [⟨some 4, .mv (.i 0), none⟩])
  (.block 0 (.loop lp93_0)))
  (.seq (.reg [⟨some 22, .mv (.t 3), none⟩,
    ⟨some 2, .mv (.t 22), none⟩])
  (.ret))))⟩

set_option maxHeartbeats 4000000 in
theorem does93 (as : List AV) (hok : ok 64 as) : Does tb93 af93 conToRumorS as := by
  cases h : (conToRumorS).run as with
  | none => exact does_none h
  | some out =>
    have h' := h
    simp only [conToRumorS] at h'
    split at h'
    · rename_i l
      by_cases hp : l.length ≤ 1048576 ∧ True
      case neg => simp [guardP, hp] at h'
      rw [guardP_pos hp] at h'
      obtain ⟨hp1, _⟩ := hp
      simp only [Option.some.injEq] at h'
      subst h'
      have hmo : (most : Int) = 1099511627776 := rfl
      have hml : (maxLen : Int) = 9223372036854775807 := rfl
      with_reducible refine does_by h fun Q hQ => ?_
      clear h
      dsimp only [af93, conToRumorS, go_sem, Nat.reduceAdd, Nat.reduceMul, Nat.reduceSub, Nat.reduceBEq, Nat.reduceLeDiff, Nat.reduceEqDiff, ↓dreduceIte, toG, tb93_158, conToRumor]
      repeat' first
        | with_reducible refine kon_seq ?_
        | with_reducible refine kon_nil ?_
        | with_reducible refine kon_any ?_ ?_
        | with_reducible exact kon_any_nil
        | with_reducible refine kon_skip ?_
        | with_reducible refine kon_block ?_
        | with_reducible refine kon_ret ?_
        | with_reducible refine kon_exit ?_
        | with_reducible refine kon_past_ret ?_
        | with_reducible refine kon_past_exit ?_
        | with_reducible refine kon_blk_ret ?_
        | with_reducible refine kon_blk_end ?_
        | with_reducible refine kon_blk_exit ?_
        | (with_reducible refine kon_blk_past ?_ ?_
           · decide)
        | with_reducible refine loop_exit ?_
        | with_reducible refine loop_ret ?_
        | with_reducible refine mid_exit ?_
        | with_reducible refine mid_ret ?_
        | ((first | with_reducible refine kon_bin fun R hR => ?_ | with_reducible refine kon_conv fun R hR => ?_)
           dsimp only [go_sem, Nat.reduceAdd, Nat.reduceMul, Nat.reduceSub, Nat.reduceBEq, Nat.reduceLeDiff, Nat.reduceEqDiff, ↓dreduceIte, toG, tb93_158, conToRumor]
           try simp (disch := first | omega | (simp only [List.length_set, List.length_append, List.length_cons, List.length_nil, List.length_replicate]; omega)) only [guardP_T, guardP_pos, iteN, rd_set, List.set_set, List.length_set, eta_fact, eta_rumor, eta_doubt, eta_item, eta_rec, eta_due, look, look0, rd_toNat, wrap64, Int.toNat_natCast, Nat.zero_add, List.take_length, List.drop_zero, and_self, setB_len, true_and, and_true]
           with_reducible refine hR _ ?_
           clear hR R)
        | (with_reducible refine kon_ins fun R hR => ?_
           dsimp only [go_sem, Nat.reduceAdd, Nat.reduceMul, Nat.reduceSub, Nat.reduceBEq, Nat.reduceLeDiff, Nat.reduceEqDiff, ↓dreduceIte, toG, tb93_158, conToRumor]
           first
             | with_reducible refine hR _ ?_
             | (simp (disch := first | omega | (simp only [List.length_set, List.length_append, List.length_cons, List.length_nil, List.length_replicate]; omega)) only [guardP_T, guardP_pos, iteN, rd_set, List.set_set, List.length_set, eta_fact, eta_rumor, eta_doubt, eta_item, eta_rec, eta_due, look, look0, rd_toNat, wrap64, Int.toNat_natCast, Nat.zero_add, List.take_length, List.drop_zero, and_self, setB_len, true_and, and_true]
                try dsimp only [go_sem, Nat.reduceAdd, Nat.reduceMul, Nat.reduceSub, Nat.reduceBEq, Nat.reduceLeDiff, Nat.reduceEqDiff, ↓dreduceIte, toG, tb93_158, conToRumor]
                try simp (disch := first | omega | (simp only [List.length_set, List.length_append, List.length_cons, List.length_nil, List.length_replicate]; omega)) only [guardP_T, guardP_pos, iteN, rd_set, List.set_set, List.length_set, eta_fact, eta_rumor, eta_doubt, eta_item, eta_rec, eta_due, look, look0, rd_toNat, wrap64, Int.toNat_natCast, Nat.zero_add, List.take_length, List.drop_zero, and_self, setB_len, true_and, and_true]
                with_reducible refine hR _ ?_)
           clear hR R)
        | (with_reducible refine kon_g_run ?_ ?_
           · dsimp only [nth] <;> with_reducible rfl)
        | (with_reducible refine kon_g_skip ?_ ?_
           · dsimp only [nth, not_t', not_f'] <;> with_reducible rfl
           dsimp only [go_sem])
        | (with_reducible refine kon_g_undef ?_ ?_
           · dsimp only [nth] <;> with_reducible rfl
           dsimp only [go_sem])
        | (with_reducible refine kon_g fun R hR => ?_
           dsimp only [go_sem, Nat.reduceAdd, Nat.reduceMul, Nat.reduceSub, Nat.reduceBEq, Nat.reduceLeDiff, Nat.reduceEqDiff, ↓dreduceIte, toG, tb93_158, conToRumor]
           split <;> (rename_i hb; with_reducible refine hR _ ?_; clear hR R; try simp only [hb]; try simp only [decide_eq_true_eq, decide_eq_false_iff_not, beq_iff_eq, beq_eq_false_iff_ne, bne_iff_ne, bne_eq_false_iff_eq, Bool.not_eq_true, Bool.not_eq_false, Bool.not_eq_eq_eq_not, Bool.not_true, Bool.not_false, ne_eq, Int.not_lt, Int.not_le, eq_self, not_true_eq_false, not_false_eq_true, decide_true, decide_false, Bool.and_eq_true, Bool.or_eq_true, Bool.and_eq_false_iff, Bool.or_eq_false_iff, gt_iff_lt, ge_iff_le, Bool.false_eq_true, Bool.true_eq_false, reduceCtorEq, or_false, false_or, or_true, true_or, false_and, and_false] at hb; try (exfalso; omega)))
        | (with_reducible refine kon_cond fun R1 R2 h1 h2 => ?_
           dsimp only [go_sem]
           first
             | (with_reducible refine h1 ?_; clear h1 h2 R1 R2)
             | (with_reducible refine h2 ?_; clear h1 h2 R1 R2)
             | ((split <;> rename_i hb <;> first
                 | (with_reducible refine h1 ?_; clear h1 h2 R1 R2; try simp only [hb])
                 | (with_reducible refine h2 ?_; clear h1 h2 R1 R2; try simp only [hb])) <;> (try simp only [decide_eq_true_eq, decide_eq_false_iff_not, beq_iff_eq, beq_eq_false_iff_ne, bne_iff_ne, bne_eq_false_iff_eq, Bool.not_eq_true, Bool.not_eq_false, Bool.not_eq_eq_eq_not, Bool.not_true, Bool.not_false, ne_eq, Int.not_lt, Int.not_le, eq_self, not_true_eq_false, not_false_eq_true, decide_true, decide_false, Bool.and_eq_true, Bool.or_eq_true, Bool.and_eq_false_iff, Bool.or_eq_false_iff, gt_iff_lt, ge_iff_le, Bool.false_eq_true, Bool.true_eq_false, reduceCtorEq, or_false, false_or, or_true, true_or, false_and, and_false] at hb; try (exfalso; omega))))
        | (with_reducible refine kon_rounds (a := lp93_0) [0, 3, 4] (fun n9 s9 => ∃ (i : Int) (o : List Rumor), ((0 ≤ i) ∧ (i ≤ l.length) ∧ (o.length = l.length) ∧ (o = l.take i.toNat ++ (List.replicate l.length (⟨⟨0, 0, 0⟩, 0⟩ : Rumor)).drop i.toNat)) ∧ n9 = (l.length - i).toNat ∧ s9.m = [.row 0 .rumor o] ∧ s9.t = [.sl .rumor l, nth s9.t 1, nth s9.t 2, .ms 0 0 0 l.length, .int .i64 i, nth s9.t 5, nth s9.t 6, nth s9.t 7, nth s9.t 8, nth s9.t 9, nth s9.t 10, nth s9.t 11, nth s9.t 12, nth s9.t 13, nth s9.t 14, nth s9.t 15, nth s9.t 16, nth s9.t 17, nth s9.t 18, nth s9.t 19, nth s9.t 20, nth s9.t 21, nth s9.t 22]) ?_ ?_
           all_goals first
             | (rintro n9 ⟨t9, m9⟩ ⟨i, o, ⟨hI0, hI1, hI2, hI3⟩, rfl, hm9, ht9⟩
                dsimp only at hm9 ht9
                subst hm9
                rw [ht9]
                clear ht9
                dsimp only [lp93_0])
             | (dsimp only [go_sem, Nat.reduceAdd, Nat.reduceMul, Nat.reduceSub, Nat.reduceBEq, Nat.reduceLeDiff, Nat.reduceEqDiff, ↓dreduceIte, toG, tb93_158, conToRumor]
                refine ⟨_, _, _, ⟨?_, ?_, ?_, ?_⟩, rfl, rfl, rfl⟩))
        | (with_reducible refine loop_again (keep := [0, 3, 4]) ?_
           dsimp only [go_sem, Nat.reduceAdd, Nat.reduceMul, Nat.reduceSub, Nat.reduceBEq, Nat.reduceLeDiff, Nat.reduceEqDiff, ↓dreduceIte, toG, tb93_158, conToRumor]
           refine ⟨_, ?_, _, _, ⟨?_, ?_, ?_, ?_⟩, rfl, rfl, rfl⟩)
      all_goals first
        | (dsimp only [kon]
           with_reducible refine hQ _ _ _ ?_
           dsimp only [kon, endQ, af93, conToRumorS, go_sem, Nat.reduceAdd, Nat.reduceMul, Nat.reduceSub, Nat.reduceBEq, Nat.reduceLeDiff, Nat.reduceEqDiff, ↓dreduceIte, toG, tb93_158, conToRumor]
           try simp (disch := first | omega | (simp only [List.length_set, List.length_append, List.length_cons, List.length_nil, List.length_replicate]; omega)) only [guardP_T, guardP_pos, iteN, rd_set, List.set_set, List.length_set, eta_fact, eta_rumor, eta_doubt, eta_item, eta_rec, eta_due, look, look0, rd_toNat, wrap64, Int.toNat_natCast, Nat.zero_add, List.take_length, List.drop_zero, and_self, setB_len, true_and, and_true]
           try dsimp only [go_sem, Nat.reduceAdd, Nat.reduceMul, Nat.reduceSub, Nat.reduceBEq, Nat.reduceLeDiff, Nat.reduceEqDiff, ↓dreduceIte, toG, tb93_158, conToRumor])
        | skip
      all_goals try first
        | omega
        | (simp; done)
        | (simp; omega)
      all_goals first
        | (simp [hI2]; done)
        | (rw [hI3, take_rd (by omega) (by omega), fill_rd (by omega) (by simp; omega) (by simp; omega)])
        | (rw [hI3, take_all (by omega), drop_all (by simp; omega), List.append_nil])
    · simp at h'

def conEqRumorS : Con := ⟨[.imm .rumor, .imm .rumor], .v, fun as => match as with
  | [.sl .rumor a, .sl .rumor b] => some (.bool (decide (a = b)), [])
  | _ => none⟩

def tb104 : Tab := fun f => match f with
  | 161 => some conEqRumor
  | _ => none

theorem tb104_161 : tb104 161 = some conEqRumor := rfl

-- loop.example/g00678/laws.eqRumorS hows [(6, [.any, .any, .any, .any, .any, .any, .any, .any, .pure, .any], [])]
def lp104_0 : AC := .seq (.seq (.reg [⟨some 11, .mv (.t 5), none⟩,
        ⟨some 12, .mv (.t 0), none⟩,
        ⟨some 13, .len (.t 12), none⟩,
        ⟨some 14, .bin .lss (.t 11) (.t 13), none⟩])
      (.cond (.t 14)
        (.skip)
        (.exit 0)))
      (.seq (.block 1 (.seq (.reg [⟨some 17, .mv (.t 0), none⟩,
          ⟨some 18, .mv (.t 5), none⟩,
          ⟨some 19, .ia .rumor (.t 17) (.t 18), none⟩,
          ⟨some 20, .ld true 4 (.t 19), none⟩,
          ⟨some 21, .mv (.t 1), none⟩,
          ⟨some 22, .mv (.t 5), none⟩,
          ⟨some 23, .ia .rumor (.t 21) (.t 22), none⟩,
          ⟨some 24, .ld true 4 (.t 23), none⟩,
          ⟨some 25, .callp 161 [(.t 20), (.t 24)], none⟩,
          ⟨some 26, .un .not (.t 25), none⟩])
        (.cond (.t 26)
          (.seq (.reg [⟨some 4, .mv (.b false), none⟩])
          (.ret))
          (.skip))))
      (.reg [⟨some 15, .mv (.t 5), none⟩,
        ⟨some 16, .bin .add (.t 15) (.i 1), none⟩,
        ⟨some 5, .mv (.t 16), none⟩]))
def af104 : AF := ⟨27, [.t 4],
  .seq (.reg [⟨some 4, .mv (.b false), none⟩])
  (.seq (.seq (.reg [⟨some 6, .mv (.t 0), none⟩,
    ⟨some 7, .len (.t 6), none⟩,
    ⟨some 8, .mv (.t 1), none⟩,
    ⟨some 9, .len (.t 8), none⟩,
    ⟨some 10, .bin .neq (.t 7) (.t 9), none⟩])
  (.cond (.t 10)
    (.seq (.reg [⟨some 4, .mv (.b false), none⟩])
    (.ret))
    (.skip)))
  (.seq (.seq (.reg [⟨some 5, .mv (.i 0), none⟩])
  (.block 0 (.loop lp104_0)))
  (.seq (.reg [⟨some 4, .mv (.b true), none⟩])
  (.ret))))⟩

set_option maxHeartbeats 4000000 in
theorem does104 (as : List AV) (hok : ok 64 as) : Does tb104 af104 conEqRumorS as := by
  cases h : (conEqRumorS).run as with
  | none => exact does_none h
  | some out =>
    have h' := h
    simp only [conEqRumorS] at h'
    split at h'
    · rename_i a b
      simp only [ok] at hok
      obtain ⟨⟨ha, _⟩, ⟨hb, _⟩, _⟩ := hok
      simp only [Option.some.injEq] at h'
      subst h'
      have hmo : (most : Int) = 1099511627776 := rfl
      have hml : (maxLen : Int) = 9223372036854775807 := rfl
      with_reducible refine does_by h fun Q hQ => ?_
      clear h
      dsimp only [af104, conEqRumorS, go_sem, Nat.reduceAdd, Nat.reduceMul, Nat.reduceSub, Nat.reduceBEq, Nat.reduceLeDiff, Nat.reduceEqDiff, ↓dreduceIte, toG, tb104_161, conEqRumor]
      repeat' first
        | with_reducible refine kon_seq ?_
        | with_reducible refine kon_nil ?_
        | with_reducible refine kon_any ?_ ?_
        | with_reducible exact kon_any_nil
        | with_reducible refine kon_skip ?_
        | with_reducible refine kon_block ?_
        | with_reducible refine kon_ret ?_
        | with_reducible refine kon_exit ?_
        | with_reducible refine kon_past_ret ?_
        | with_reducible refine kon_past_exit ?_
        | with_reducible refine kon_blk_ret ?_
        | with_reducible refine kon_blk_end ?_
        | with_reducible refine kon_blk_exit ?_
        | (with_reducible refine kon_blk_past ?_ ?_
           · decide)
        | with_reducible refine loop_exit ?_
        | with_reducible refine loop_ret ?_
        | with_reducible refine mid_exit ?_
        | with_reducible refine mid_ret ?_
        | ((first | with_reducible refine kon_bin fun R hR => ?_ | with_reducible refine kon_conv fun R hR => ?_)
           dsimp only [go_sem, Nat.reduceAdd, Nat.reduceMul, Nat.reduceSub, Nat.reduceBEq, Nat.reduceLeDiff, Nat.reduceEqDiff, ↓dreduceIte, toG, tb104_161, conEqRumor]
           try simp (disch := first | omega | (simp only [List.length_set, List.length_append, List.length_cons, List.length_nil, List.length_replicate]; omega)) only [guardP_T, guardP_pos, iteN, rd_set, List.set_set, List.length_set, eta_fact, eta_rumor, eta_doubt, eta_item, eta_rec, eta_due, look, look0, rd_toNat, wrap64, Int.toNat_natCast, Nat.zero_add, List.take_length, List.drop_zero, and_self, setB_len, true_and, and_true]
           with_reducible refine hR _ ?_
           clear hR R)
        | (with_reducible refine kon_ins fun R hR => ?_
           dsimp only [go_sem, Nat.reduceAdd, Nat.reduceMul, Nat.reduceSub, Nat.reduceBEq, Nat.reduceLeDiff, Nat.reduceEqDiff, ↓dreduceIte, toG, tb104_161, conEqRumor]
           first
             | with_reducible refine hR _ ?_
             | (simp (disch := first | omega | (simp only [List.length_set, List.length_append, List.length_cons, List.length_nil, List.length_replicate]; omega)) only [guardP_T, guardP_pos, iteN, rd_set, List.set_set, List.length_set, eta_fact, eta_rumor, eta_doubt, eta_item, eta_rec, eta_due, look, look0, rd_toNat, wrap64, Int.toNat_natCast, Nat.zero_add, List.take_length, List.drop_zero, and_self, setB_len, true_and, and_true]
                try dsimp only [go_sem, Nat.reduceAdd, Nat.reduceMul, Nat.reduceSub, Nat.reduceBEq, Nat.reduceLeDiff, Nat.reduceEqDiff, ↓dreduceIte, toG, tb104_161, conEqRumor]
                try simp (disch := first | omega | (simp only [List.length_set, List.length_append, List.length_cons, List.length_nil, List.length_replicate]; omega)) only [guardP_T, guardP_pos, iteN, rd_set, List.set_set, List.length_set, eta_fact, eta_rumor, eta_doubt, eta_item, eta_rec, eta_due, look, look0, rd_toNat, wrap64, Int.toNat_natCast, Nat.zero_add, List.take_length, List.drop_zero, and_self, setB_len, true_and, and_true]
                with_reducible refine hR _ ?_)
           clear hR R)
        | (with_reducible refine kon_g_run ?_ ?_
           · dsimp only [nth] <;> with_reducible rfl)
        | (with_reducible refine kon_g_skip ?_ ?_
           · dsimp only [nth, not_t', not_f'] <;> with_reducible rfl
           dsimp only [go_sem])
        | (with_reducible refine kon_g_undef ?_ ?_
           · dsimp only [nth] <;> with_reducible rfl
           dsimp only [go_sem])
        | (with_reducible refine kon_g fun R hR => ?_
           dsimp only [go_sem, Nat.reduceAdd, Nat.reduceMul, Nat.reduceSub, Nat.reduceBEq, Nat.reduceLeDiff, Nat.reduceEqDiff, ↓dreduceIte, toG, tb104_161, conEqRumor]
           split <;> (rename_i hb; with_reducible refine hR _ ?_; clear hR R; try simp only [hb]; try simp only [decide_eq_true_eq, decide_eq_false_iff_not, beq_iff_eq, beq_eq_false_iff_ne, bne_iff_ne, bne_eq_false_iff_eq, Bool.not_eq_true, Bool.not_eq_false, Bool.not_eq_eq_eq_not, Bool.not_true, Bool.not_false, ne_eq, Int.not_lt, Int.not_le, eq_self, not_true_eq_false, not_false_eq_true, decide_true, decide_false, Bool.and_eq_true, Bool.or_eq_true, Bool.and_eq_false_iff, Bool.or_eq_false_iff, gt_iff_lt, ge_iff_le, Bool.false_eq_true, Bool.true_eq_false, reduceCtorEq, or_false, false_or, or_true, true_or, false_and, and_false] at hb; try (exfalso; omega)))
        | (with_reducible refine kon_cond fun R1 R2 h1 h2 => ?_
           dsimp only [go_sem]
           first
             | (with_reducible refine h1 ?_; clear h1 h2 R1 R2)
             | (with_reducible refine h2 ?_; clear h1 h2 R1 R2)
             | ((split <;> rename_i hb <;> first
                 | (with_reducible refine h1 ?_; clear h1 h2 R1 R2; try simp only [hb])
                 | (with_reducible refine h2 ?_; clear h1 h2 R1 R2; try simp only [hb])) <;> (try simp only [decide_eq_true_eq, decide_eq_false_iff_not, beq_iff_eq, beq_eq_false_iff_ne, bne_iff_ne, bne_eq_false_iff_eq, Bool.not_eq_true, Bool.not_eq_false, Bool.not_eq_eq_eq_not, Bool.not_true, Bool.not_false, ne_eq, Int.not_lt, Int.not_le, eq_self, not_true_eq_false, not_false_eq_true, decide_true, decide_false, Bool.and_eq_true, Bool.or_eq_true, Bool.and_eq_false_iff, Bool.or_eq_false_iff, gt_iff_lt, ge_iff_le, Bool.false_eq_true, Bool.true_eq_false, reduceCtorEq, or_false, false_or, or_true, true_or, false_and, and_false] at hb; try (exfalso; omega))))
        | (with_reducible refine kon_rounds (a := lp104_0) [0, 1, 5] (fun n9 s9 => ∃ (i : Int), ((0 ≤ i) ∧ (i ≤ a.length) ∧ (a.take i.toNat = b.take i.toNat)) ∧ n9 = (a.length - i).toNat ∧ s9.m = [] ∧ s9.t = [.sl .rumor a, .sl .rumor b, nth s9.t 2, nth s9.t 3, nth s9.t 4, .int .i64 i, nth s9.t 6, nth s9.t 7, nth s9.t 8, nth s9.t 9, nth s9.t 10, nth s9.t 11, nth s9.t 12, nth s9.t 13, nth s9.t 14, nth s9.t 15, nth s9.t 16, nth s9.t 17, nth s9.t 18, nth s9.t 19, nth s9.t 20, nth s9.t 21, nth s9.t 22, nth s9.t 23, nth s9.t 24, nth s9.t 25, nth s9.t 26]) ?_ ?_
           all_goals first
             | (rintro n9 ⟨t9, m9⟩ ⟨i, ⟨hI0, hI1, hI2⟩, rfl, hm9, ht9⟩
                dsimp only at hm9 ht9
                subst hm9
                rw [ht9]
                clear ht9
                dsimp only [lp104_0])
             | (dsimp only [go_sem, Nat.reduceAdd, Nat.reduceMul, Nat.reduceSub, Nat.reduceBEq, Nat.reduceLeDiff, Nat.reduceEqDiff, ↓dreduceIte, toG, tb104_161, conEqRumor]
                refine ⟨_, _, ⟨?_, ?_, ?_⟩, rfl, rfl, rfl⟩))
        | (with_reducible refine loop_again (keep := [0, 1, 5]) ?_
           dsimp only [go_sem, Nat.reduceAdd, Nat.reduceMul, Nat.reduceSub, Nat.reduceBEq, Nat.reduceLeDiff, Nat.reduceEqDiff, ↓dreduceIte, toG, tb104_161, conEqRumor]
           refine ⟨_, ?_, _, ⟨?_, ?_, ?_⟩, rfl, rfl, rfl⟩)
      all_goals first
        | (dsimp only [kon]
           with_reducible refine hQ _ _ _ ?_
           dsimp only [kon, endQ, af104, conEqRumorS, go_sem, Nat.reduceAdd, Nat.reduceMul, Nat.reduceSub, Nat.reduceBEq, Nat.reduceLeDiff, Nat.reduceEqDiff, ↓dreduceIte, toG, tb104_161, conEqRumor]
           try simp (disch := first | omega | (simp only [List.length_set, List.length_append, List.length_cons, List.length_nil, List.length_replicate]; omega)) only [guardP_T, guardP_pos, iteN, rd_set, List.set_set, List.length_set, eta_fact, eta_rumor, eta_doubt, eta_item, eta_rec, eta_due, look, look0, rd_toNat, wrap64, Int.toNat_natCast, Nat.zero_add, List.take_length, List.drop_zero, and_self, setB_len, true_and, and_true]
           try dsimp only [go_sem, Nat.reduceAdd, Nat.reduceMul, Nat.reduceSub, Nat.reduceBEq, Nat.reduceLeDiff, Nat.reduceEqDiff, ↓dreduceIte, toG, tb104_161, conEqRumor])
        | skip
      all_goals try first
        | omega
        | (simp; done)
        | (simp; omega)
      all_goals first
        | (rw [take_rd (by omega) (by omega), take_rd (by omega) (by omega), hI2]
           simp_all
           done)
        | (rw [take_rd (by omega) (by omega), take_rd (by omega) (by omega), hI2]
           cases hA : rd a i
           cases hB : rd b i
           simp_all
           done)
        | (have hne : a ≠ b := by
             rintro rfl
             simp_all
           simp [hne])
        | (rw [take_all (by omega), take_all (by omega)] at hI2
           simp [hI2])
    · simp at h'

def conSzRumorS : Con := ⟨[.imm .rumor, .v], .v, fun as => match as with
  | [.sl .rumor l, .int .i64 n] => guardP (0 ≤ n ∧ n ≤ 1048576) (some (.int .i64 (szN n l.length), []))
  | _ => none⟩

-- loop.example/g00678/laws.szRumorS hows []
def af82 : AF := ⟨12, [.t 4],
  .seq (.reg [⟨some 4, .mv (.i 0), none⟩])
  (.seq (.reg [⟨some 5, .mv (.t 1), none⟩,
    ⟨some 6, .mv (.t 0), none⟩,
    ⟨some 7, .len (.t 6), none⟩,
    ⟨some 8, .bin .sub (.t 5) (.t 7), none⟩,
    ⟨some 1, .mv (.t 8), none⟩])
  (.seq (.seq (.reg [⟨some 9, .mv (.t 1), none⟩,
    ⟨some 10, .bin .lss (.t 9) (.i 0), none⟩])
  (.cond (.t 10)
    (.seq (.reg [⟨some 4, .mv (.i (-1)), none⟩])
    (.ret))
    (.skip)))
  (.seq (.reg [⟨some 11, .mv (.t 1), none⟩,
    ⟨some 4, .mv (.t 11), none⟩])
  (.ret))))⟩

set_option maxHeartbeats 4000000 in
theorem does82 (as : List AV) (hok : ok 64 as) : Does tbNone af82 conSzRumorS as := by
  cases h : (conSzRumorS).run as with
  | none => exact does_none h
  | some out =>
    have h' := h
    simp only [conSzRumorS] at h'
    split at h'
    · rename_i l n
      by_cases hp : 0 ≤ n ∧ n ≤ 1048576
      case neg => simp [guardP, hp] at h'
      rw [guardP_pos hp] at h'
      obtain ⟨hp1, hp2⟩ := hp
      simp only [ok] at hok
      obtain ⟨⟨ha, _⟩, _⟩ := hok
      simp only [Option.some.injEq] at h'
      subst h'
      have hmo : (most : Int) = 1099511627776 := rfl
      have hml : (maxLen : Int) = 9223372036854775807 := rfl
      with_reducible refine does_by h fun Q hQ => ?_
      clear h
      dsimp only [af82, conSzRumorS, go_sem, Nat.reduceAdd, Nat.reduceMul, Nat.reduceSub, Nat.reduceBEq, Nat.reduceLeDiff, Nat.reduceEqDiff, ↓dreduceIte, toG]
      repeat' first
        | with_reducible refine kon_seq ?_
        | with_reducible refine kon_nil ?_
        | with_reducible refine kon_any ?_ ?_
        | with_reducible exact kon_any_nil
        | with_reducible refine kon_skip ?_
        | with_reducible refine kon_block ?_
        | with_reducible refine kon_ret ?_
        | with_reducible refine kon_exit ?_
        | with_reducible refine kon_past_ret ?_
        | with_reducible refine kon_past_exit ?_
        | with_reducible refine kon_blk_ret ?_
        | with_reducible refine kon_blk_end ?_
        | with_reducible refine kon_blk_exit ?_
        | (with_reducible refine kon_blk_past ?_ ?_
           · decide)
        | with_reducible refine loop_exit ?_
        | with_reducible refine loop_ret ?_
        | with_reducible refine mid_exit ?_
        | with_reducible refine mid_ret ?_
        | ((first | with_reducible refine kon_bin fun R hR => ?_ | with_reducible refine kon_conv fun R hR => ?_)
           dsimp only [go_sem, Nat.reduceAdd, Nat.reduceMul, Nat.reduceSub, Nat.reduceBEq, Nat.reduceLeDiff, Nat.reduceEqDiff, ↓dreduceIte, toG]
           try simp (disch := first | omega | (simp only [List.length_set, List.length_append, List.length_cons, List.length_nil, List.length_replicate]; omega)) only [guardP_T, guardP_pos, iteN, rd_set, List.set_set, List.length_set, eta_fact, eta_rumor, eta_doubt, eta_item, eta_rec, eta_due, look, look0, rd_toNat, wrap64, Int.toNat_natCast, Nat.zero_add, List.take_length, List.drop_zero, and_self, setB_len, true_and, and_true]
           with_reducible refine hR _ ?_
           clear hR R)
        | (with_reducible refine kon_ins fun R hR => ?_
           dsimp only [go_sem, Nat.reduceAdd, Nat.reduceMul, Nat.reduceSub, Nat.reduceBEq, Nat.reduceLeDiff, Nat.reduceEqDiff, ↓dreduceIte, toG]
           first
             | with_reducible refine hR _ ?_
             | (simp (disch := first | omega | (simp only [List.length_set, List.length_append, List.length_cons, List.length_nil, List.length_replicate]; omega)) only [guardP_T, guardP_pos, iteN, rd_set, List.set_set, List.length_set, eta_fact, eta_rumor, eta_doubt, eta_item, eta_rec, eta_due, look, look0, rd_toNat, wrap64, Int.toNat_natCast, Nat.zero_add, List.take_length, List.drop_zero, and_self, setB_len, true_and, and_true]
                try dsimp only [go_sem, Nat.reduceAdd, Nat.reduceMul, Nat.reduceSub, Nat.reduceBEq, Nat.reduceLeDiff, Nat.reduceEqDiff, ↓dreduceIte, toG]
                try simp (disch := first | omega | (simp only [List.length_set, List.length_append, List.length_cons, List.length_nil, List.length_replicate]; omega)) only [guardP_T, guardP_pos, iteN, rd_set, List.set_set, List.length_set, eta_fact, eta_rumor, eta_doubt, eta_item, eta_rec, eta_due, look, look0, rd_toNat, wrap64, Int.toNat_natCast, Nat.zero_add, List.take_length, List.drop_zero, and_self, setB_len, true_and, and_true]
                with_reducible refine hR _ ?_)
           clear hR R)
        | (with_reducible refine kon_g_run ?_ ?_
           · dsimp only [nth] <;> with_reducible rfl)
        | (with_reducible refine kon_g_skip ?_ ?_
           · dsimp only [nth, not_t', not_f'] <;> with_reducible rfl
           dsimp only [go_sem])
        | (with_reducible refine kon_g_undef ?_ ?_
           · dsimp only [nth] <;> with_reducible rfl
           dsimp only [go_sem])
        | (with_reducible refine kon_g fun R hR => ?_
           dsimp only [go_sem, Nat.reduceAdd, Nat.reduceMul, Nat.reduceSub, Nat.reduceBEq, Nat.reduceLeDiff, Nat.reduceEqDiff, ↓dreduceIte, toG]
           split <;> (rename_i hb; with_reducible refine hR _ ?_; clear hR R; try simp only [hb]; try simp only [decide_eq_true_eq, decide_eq_false_iff_not, beq_iff_eq, beq_eq_false_iff_ne, bne_iff_ne, bne_eq_false_iff_eq, Bool.not_eq_true, Bool.not_eq_false, Bool.not_eq_eq_eq_not, Bool.not_true, Bool.not_false, ne_eq, Int.not_lt, Int.not_le, eq_self, not_true_eq_false, not_false_eq_true, decide_true, decide_false, Bool.and_eq_true, Bool.or_eq_true, Bool.and_eq_false_iff, Bool.or_eq_false_iff, gt_iff_lt, ge_iff_le, Bool.false_eq_true, Bool.true_eq_false, reduceCtorEq, or_false, false_or, or_true, true_or, false_and, and_false] at hb; try (exfalso; omega)))
        | (with_reducible refine kon_cond fun R1 R2 h1 h2 => ?_
           dsimp only [go_sem]
           first
             | (with_reducible refine h1 ?_; clear h1 h2 R1 R2)
             | (with_reducible refine h2 ?_; clear h1 h2 R1 R2)
             | ((split <;> rename_i hb <;> first
                 | (with_reducible refine h1 ?_; clear h1 h2 R1 R2; try simp only [hb])
                 | (with_reducible refine h2 ?_; clear h1 h2 R1 R2; try simp only [hb])) <;> (try simp only [decide_eq_true_eq, decide_eq_false_iff_not, beq_iff_eq, beq_eq_false_iff_ne, bne_iff_ne, bne_eq_false_iff_eq, Bool.not_eq_true, Bool.not_eq_false, Bool.not_eq_eq_eq_not, Bool.not_true, Bool.not_false, ne_eq, Int.not_lt, Int.not_le, eq_self, not_true_eq_false, not_false_eq_true, decide_true, decide_false, Bool.and_eq_true, Bool.or_eq_true, Bool.and_eq_false_iff, Bool.or_eq_false_iff, gt_iff_lt, ge_iff_le, Bool.false_eq_true, Bool.true_eq_false, reduceCtorEq, or_false, false_or, or_true, true_or, false_and, and_false] at hb; try (exfalso; omega))))
      all_goals first
        | (dsimp only [kon]
           with_reducible refine hQ _ _ _ ?_
           dsimp only [kon, endQ, af82, conSzRumorS, go_sem, Nat.reduceAdd, Nat.reduceMul, Nat.reduceSub, Nat.reduceBEq, Nat.reduceLeDiff, Nat.reduceEqDiff, ↓dreduceIte, toG]
           try simp (disch := first | omega | (simp only [List.length_set, List.length_append, List.length_cons, List.length_nil, List.length_replicate]; omega)) only [guardP_T, guardP_pos, iteN, rd_set, List.set_set, List.length_set, eta_fact, eta_rumor, eta_doubt, eta_item, eta_rec, eta_due, look, look0, rd_toNat, wrap64, Int.toNat_natCast, Nat.zero_add, List.take_length, List.drop_zero, and_self, setB_len, true_and, and_true]
           try dsimp only [go_sem, Nat.reduceAdd, Nat.reduceMul, Nat.reduceSub, Nat.reduceBEq, Nat.reduceLeDiff, Nat.reduceEqDiff, ↓dreduceIte, toG])
        | skip
      all_goals try first
        | omega
        | (simp; done)
        | (simp; omega)
      all_goals (simp only [szN, Option.some.injEq, Prod.mk.injEq, AV.int.injEq, and_true, true_and]; split <;> omega)
    · simp at h'

def conToDoubt : Con := ⟨[.v], .v, fun as => match as with
  | [.agg [.int .i64 pa, .int .i64 pb, .int .i64 pc]] => some (.agg [.int .i64 pa, .int .i64 pb, .int .i64 pc], [])
  | _ => none⟩

-- loop.example/g00678/laws.toDoubt hows []
def af159 : AF := ⟨14, [.cell 2 true 3],
  .seq (.reg [⟨some 1, .box (.t 0), none⟩,
    ⟨some 2, .box (.c (.agg [.int .i64 0, .int .i64 0, .int .i64 0])), none⟩])
  (.seq (.reg [⟨some 3, .box (.c (.agg [.int .i64 0, .int .i64 0, .int .i64 0])), none⟩])
  (.seq (.reg [⟨some 4, .fa 0 (.t 1), none⟩,
    ⟨some 5, .ld false 1 (.t 4), none⟩,
    ⟨some 6, .fa 0 (.t 3), none⟩,
    ⟨none, .st 1 (.t 6) (.t 5), none⟩])
  (.seq (.reg [⟨some 7, .fa 1 (.t 1), none⟩,
    ⟨some 8, .ld false 1 (.t 7), none⟩,
    ⟨some 9, .fa 1 (.t 3), none⟩,
    ⟨none, .st 1 (.t 9) (.t 8), none⟩])
  (.seq (.reg [⟨some 10, .fa 2 (.t 1), none⟩,
    ⟨some 11, .ld false 1 (.t 10), none⟩,
    ⟨some 12, .fa 2 (.t 3), none⟩,
    ⟨none, .st 1 (.t 12) (.t 11), none⟩])
  (.seq (.reg [⟨some 13, .ld true 3 (.t 3), none⟩,
    ⟨none, .st 3 (.t 2) (.t 13), none⟩])
  (.ret))))))⟩

set_option maxHeartbeats 4000000 in
theorem does159 (as : List AV) (hok : ok 64 as) : Does tbNone af159 conToDoubt as := by
  cases h : (conToDoubt).run as with
  | none => exact does_none h
  | some out =>
    have h' := h
    simp only [conToDoubt] at h'
    split at h'
    · rename_i pa pb pc
      simp only [Option.some.injEq] at h'
      subst h'
      have hmo : (most : Int) = 1099511627776 := rfl
      have hml : (maxLen : Int) = 9223372036854775807 := rfl
      with_reducible refine does_by h fun Q hQ => ?_
      clear h
      dsimp only [af159, conToDoubt, go_sem, Nat.reduceAdd, Nat.reduceMul, Nat.reduceSub, Nat.reduceBEq, Nat.reduceLeDiff, Nat.reduceEqDiff, ↓dreduceIte, toG]
      repeat' first
        | with_reducible refine kon_seq ?_
        | with_reducible refine kon_nil ?_
        | with_reducible refine kon_any ?_ ?_
        | with_reducible exact kon_any_nil
        | with_reducible refine kon_skip ?_
        | with_reducible refine kon_block ?_
        | with_reducible refine kon_ret ?_
        | with_reducible refine kon_exit ?_
        | with_reducible refine kon_past_ret ?_
        | with_reducible refine kon_past_exit ?_
        | with_reducible refine kon_blk_ret ?_
        | with_reducible refine kon_blk_end ?_
        | with_reducible refine kon_blk_exit ?_
        | (with_reducible refine kon_blk_past ?_ ?_
           · decide)
        | with_reducible refine loop_exit ?_
        | with_reducible refine loop_ret ?_
        | with_reducible refine mid_exit ?_
        | with_reducible refine mid_ret ?_
        | ((first | with_reducible refine kon_bin fun R hR => ?_ | with_reducible refine kon_conv fun R hR => ?_)
           dsimp only [go_sem, Nat.reduceAdd, Nat.reduceMul, Nat.reduceSub, Nat.reduceBEq, Nat.reduceLeDiff, Nat.reduceEqDiff, ↓dreduceIte, toG]
           try simp (disch := first | omega | (simp only [List.length_set, List.length_append, List.length_cons, List.length_nil, List.length_replicate]; omega)) only [guardP_T, guardP_pos, iteN, rd_set, List.set_set, List.length_set, eta_fact, eta_rumor, eta_doubt, eta_item, eta_rec, eta_due, look, look0, rd_toNat, wrap64, Int.toNat_natCast, Nat.zero_add, List.take_length, List.drop_zero, and_self, setB_len, true_and, and_true]
           with_reducible refine hR _ ?_
           clear hR R)
        | (with_reducible refine kon_ins fun R hR => ?_
           dsimp only [go_sem, Nat.reduceAdd, Nat.reduceMul, Nat.reduceSub, Nat.reduceBEq, Nat.reduceLeDiff, Nat.reduceEqDiff, ↓dreduceIte, toG]
           first
             | with_reducible refine hR _ ?_
             | (simp (disch := first | omega | (simp only [List.length_set, List.length_append, List.length_cons, List.length_nil, List.length_replicate]; omega)) only [guardP_T, guardP_pos, iteN, rd_set, List.set_set, List.length_set, eta_fact, eta_rumor, eta_doubt, eta_item, eta_rec, eta_due, look, look0, rd_toNat, wrap64, Int.toNat_natCast, Nat.zero_add, List.take_length, List.drop_zero, and_self, setB_len, true_and, and_true]
                try dsimp only [go_sem, Nat.reduceAdd, Nat.reduceMul, Nat.reduceSub, Nat.reduceBEq, Nat.reduceLeDiff, Nat.reduceEqDiff, ↓dreduceIte, toG]
                try simp (disch := first | omega | (simp only [List.length_set, List.length_append, List.length_cons, List.length_nil, List.length_replicate]; omega)) only [guardP_T, guardP_pos, iteN, rd_set, List.set_set, List.length_set, eta_fact, eta_rumor, eta_doubt, eta_item, eta_rec, eta_due, look, look0, rd_toNat, wrap64, Int.toNat_natCast, Nat.zero_add, List.take_length, List.drop_zero, and_self, setB_len, true_and, and_true]
                with_reducible refine hR _ ?_)
           clear hR R)
        | (with_reducible refine kon_g_run ?_ ?_
           · dsimp only [nth] <;> with_reducible rfl)
        | (with_reducible refine kon_g_skip ?_ ?_
           · dsimp only [nth, not_t', not_f'] <;> with_reducible rfl
           dsimp only [go_sem])
        | (with_reducible refine kon_g_undef ?_ ?_
           · dsimp only [nth] <;> with_reducible rfl
           dsimp only [go_sem])
        | (with_reducible refine kon_g fun R hR => ?_
           dsimp only [go_sem, Nat.reduceAdd, Nat.reduceMul, Nat.reduceSub, Nat.reduceBEq, Nat.reduceLeDiff, Nat.reduceEqDiff, ↓dreduceIte, toG]
           split <;> (rename_i hb; with_reducible refine hR _ ?_; clear hR R; try simp only [hb]; try simp only [decide_eq_true_eq, decide_eq_false_iff_not, beq_iff_eq, beq_eq_false_iff_ne, bne_iff_ne, bne_eq_false_iff_eq, Bool.not_eq_true, Bool.not_eq_false, Bool.not_eq_eq_eq_not, Bool.not_true, Bool.not_false, ne_eq, Int.not_lt, Int.not_le, eq_self, not_true_eq_false, not_false_eq_true, decide_true, decide_false, Bool.and_eq_true, Bool.or_eq_true, Bool.and_eq_false_iff, Bool.or_eq_false_iff, gt_iff_lt, ge_iff_le, Bool.false_eq_true, Bool.true_eq_false, reduceCtorEq, or_false, false_or, or_true, true_or, false_and, and_false] at hb; try (exfalso; omega)))
        | (with_reducible refine kon_cond fun R1 R2 h1 h2 => ?_
           dsimp only [go_sem]
           first
             | (with_reducible refine h1 ?_; clear h1 h2 R1 R2)
             | (with_reducible refine h2 ?_; clear h1 h2 R1 R2)
             | ((split <;> rename_i hb <;> first
                 | (with_reducible refine h1 ?_; clear h1 h2 R1 R2; try simp only [hb])
                 | (with_reducible refine h2 ?_; clear h1 h2 R1 R2; try simp only [hb])) <;> (try simp only [decide_eq_true_eq, decide_eq_false_iff_not, beq_iff_eq, beq_eq_false_iff_ne, bne_iff_ne, bne_eq_false_iff_eq, Bool.not_eq_true, Bool.not_eq_false, Bool.not_eq_eq_eq_not, Bool.not_true, Bool.not_false, ne_eq, Int.not_lt, Int.not_le, eq_self, not_true_eq_false, not_false_eq_true, decide_true, decide_false, Bool.and_eq_true, Bool.or_eq_true, Bool.and_eq_false_iff, Bool.or_eq_false_iff, gt_iff_lt, ge_iff_le, Bool.false_eq_true, Bool.true_eq_false, reduceCtorEq, or_false, false_or, or_true, true_or, false_and, and_false] at hb; try (exfalso; omega))))
      all_goals first
        | (dsimp only [kon]
           with_reducible refine hQ _ _ _ ?_
           dsimp only [kon, endQ, af159, conToDoubt, go_sem, Nat.reduceAdd, Nat.reduceMul, Nat.reduceSub, Nat.reduceBEq, Nat.reduceLeDiff, Nat.reduceEqDiff, ↓dreduceIte, toG]
           try simp (disch := first | omega | (simp only [List.length_set, List.length_append, List.length_cons, List.length_nil, List.length_replicate]; omega)) only [guardP_T, guardP_pos, iteN, rd_set, List.set_set, List.length_set, eta_fact, eta_rumor, eta_doubt, eta_item, eta_rec, eta_due, look, look0, rd_toNat, wrap64, Int.toNat_natCast, Nat.zero_add, List.take_length, List.drop_zero, and_self, setB_len, true_and, and_true]
           try dsimp only [go_sem, Nat.reduceAdd, Nat.reduceMul, Nat.reduceSub, Nat.reduceBEq, Nat.reduceLeDiff, Nat.reduceEqDiff, ↓dreduceIte, toG])
        | skip
      all_goals try first
        | omega
        | (simp; done)
        | (simp; omega)
      all_goals rfl
    · simp at h'

def conEqDoubt : Con := ⟨[.v, .v], .v, fun as => match as with
  | [.agg [.int .i64 pa, .int .i64 pb, .int .i64 pc], .agg [.int .i64 qa, .int .i64 qb, .int .i64 qc]] => some (.bool (decide ((⟨pa, pb, pc⟩ : Doubt) = (⟨qa, qb, qc⟩ : Doubt))), [])
  | _ => none⟩

-- loop.example/g00678/laws.eqDoubt hows []
def af162 : AF := ⟨20, [.t 4],
  .seq (.reg [⟨some 2, .box (.t 0), none⟩,
    ⟨some 3, .box (.t 1), none⟩,
    ⟨some 4, .mv (.b false), none⟩])
  (.seq (.seq (.reg [⟨some 5, .fa 0 (.t 2), none⟩,
    ⟨some 6, .ld false 1 (.t 5), none⟩,
    ⟨some 7, .fa 0 (.t 3), none⟩,
    ⟨some 8, .ld false 1 (.t 7), none⟩,
    ⟨some 9, .bin .neq (.t 6) (.t 8), none⟩])
  (.cond (.t 9)
    (.seq (.reg [⟨some 4, .mv (.b false), none⟩])
    (.ret))
    (.skip)))
  (.seq (.seq (.reg [⟨some 10, .fa 1 (.t 2), none⟩,
    ⟨some 11, .ld false 1 (.t 10), none⟩,
    ⟨some 12, .fa 1 (.t 3), none⟩,
    ⟨some 13, .ld false 1 (.t 12), none⟩,
    ⟨some 14, .bin .neq (.t 11) (.t 13), none⟩])
  (.cond (.t 14)
    (.seq (.reg [⟨some 4, .mv (.b false), none⟩])
    (.ret))
    (.skip)))
  (.seq (.seq (.reg [⟨some 15, .fa 2 (.t 2), none⟩,
    ⟨some 16, .ld false 1 (.t 15), none⟩,
    ⟨some 17, .fa 2 (.t 3), none⟩,
    ⟨some 18, .ld false 1 (.t 17), none⟩,
    ⟨some 19, .bin .neq (.t 16) (.t 18), none⟩])
  (.cond (.t 19)
    (.seq (.reg [⟨some 4, .mv (.b false), none⟩])
    (.ret))
    (.skip)))
  (.seq (.reg [⟨some 4, .mv (.b true), none⟩])
  (.ret)))))⟩

set_option maxHeartbeats 4000000 in
theorem does162 (as : List AV) (hok : ok 64 as) : Does tbNone af162 conEqDoubt as := by
  cases h : (conEqDoubt).run as with
  | none => exact does_none h
  | some out =>
    have h' := h
    simp only [conEqDoubt] at h'
    split at h'
    · rename_i pa pb pc qa qb qc
      simp only [Option.some.injEq] at h'
      subst h'
      have hmo : (most : Int) = 1099511627776 := rfl
      have hml : (maxLen : Int) = 9223372036854775807 := rfl
      with_reducible refine does_by h fun Q hQ => ?_
      clear h
      dsimp only [af162, conEqDoubt, go_sem, Nat.reduceAdd, Nat.reduceMul, Nat.reduceSub, Nat.reduceBEq, Nat.reduceLeDiff, Nat.reduceEqDiff, ↓dreduceIte, toG]
      repeat' first
        | with_reducible refine kon_seq ?_
        | with_reducible refine kon_nil ?_
        | with_reducible refine kon_any ?_ ?_
        | with_reducible exact kon_any_nil
        | with_reducible refine kon_skip ?_
        | with_reducible refine kon_block ?_
        | with_reducible refine kon_ret ?_
        | with_reducible refine kon_exit ?_
        | with_reducible refine kon_past_ret ?_
        | with_reducible refine kon_past_exit ?_
        | with_reducible refine kon_blk_ret ?_
        | with_reducible refine kon_blk_end ?_
        | with_reducible refine kon_blk_exit ?_
        | (with_reducible refine kon_blk_past ?_ ?_
           · decide)
        | with_reducible refine loop_exit ?_
        | with_reducible refine loop_ret ?_
        | with_reducible refine mid_exit ?_
        | with_reducible refine mid_ret ?_
        | ((first | with_reducible refine kon_bin fun R hR => ?_ | with_reducible refine kon_conv fun R hR => ?_)
           dsimp only [go_sem, Nat.reduceAdd, Nat.reduceMul, Nat.reduceSub, Nat.reduceBEq, Nat.reduceLeDiff, Nat.reduceEqDiff, ↓dreduceIte, toG]
           try simp (disch := first | omega | (simp only [List.length_set, List.length_append, List.length_cons, List.length_nil, List.length_replicate]; omega)) only [guardP_T, guardP_pos, iteN, rd_set, List.set_set, List.length_set, eta_fact, eta_rumor, eta_doubt, eta_item, eta_rec, eta_due, look, look0, rd_toNat, wrap64, Int.toNat_natCast, Nat.zero_add, List.take_length, List.drop_zero, and_self, setB_len, true_and, and_true]
           with_reducible refine hR _ ?_
           clear hR R)
        | (with_reducible refine kon_ins fun R hR => ?_
           dsimp only [go_sem, Nat.reduceAdd, Nat.reduceMul, Nat.reduceSub, Nat.reduceBEq, Nat.reduceLeDiff, Nat.reduceEqDiff, ↓dreduceIte, toG]
           first
             | with_reducible refine hR _ ?_
             | (simp (disch := first | omega | (simp only [List.length_set, List.length_append, List.length_cons, List.length_nil, List.length_replicate]; omega)) only [guardP_T, guardP_pos, iteN, rd_set, List.set_set, List.length_set, eta_fact, eta_rumor, eta_doubt, eta_item, eta_rec, eta_due, look, look0, rd_toNat, wrap64, Int.toNat_natCast, Nat.zero_add, List.take_length, List.drop_zero, and_self, setB_len, true_and, and_true]
                try dsimp only [go_sem, Nat.reduceAdd, Nat.reduceMul, Nat.reduceSub, Nat.reduceBEq, Nat.reduceLeDiff, Nat.reduceEqDiff, ↓dreduceIte, toG]
                try simp (disch := first | omega | (simp only [List.length_set, List.length_append, List.length_cons, List.length_nil, List.length_replicate]; omega)) only [guardP_T, guardP_pos, iteN, rd_set, List.set_set, List.length_set, eta_fact, eta_rumor, eta_doubt, eta_item, eta_rec, eta_due, look, look0, rd_toNat, wrap64, Int.toNat_natCast, Nat.zero_add, List.take_length, List.drop_zero, and_self, setB_len, true_and, and_true]
                with_reducible refine hR _ ?_)
           clear hR R)
        | (with_reducible refine kon_g_run ?_ ?_
           · dsimp only [nth] <;> with_reducible rfl)
        | (with_reducible refine kon_g_skip ?_ ?_
           · dsimp only [nth, not_t', not_f'] <;> with_reducible rfl
           dsimp only [go_sem])
        | (with_reducible refine kon_g_undef ?_ ?_
           · dsimp only [nth] <;> with_reducible rfl
           dsimp only [go_sem])
        | (with_reducible refine kon_g fun R hR => ?_
           dsimp only [go_sem, Nat.reduceAdd, Nat.reduceMul, Nat.reduceSub, Nat.reduceBEq, Nat.reduceLeDiff, Nat.reduceEqDiff, ↓dreduceIte, toG]
           split <;> (rename_i hb; with_reducible refine hR _ ?_; clear hR R; try simp only [hb]; try simp only [decide_eq_true_eq, decide_eq_false_iff_not, beq_iff_eq, beq_eq_false_iff_ne, bne_iff_ne, bne_eq_false_iff_eq, Bool.not_eq_true, Bool.not_eq_false, Bool.not_eq_eq_eq_not, Bool.not_true, Bool.not_false, ne_eq, Int.not_lt, Int.not_le, eq_self, not_true_eq_false, not_false_eq_true, decide_true, decide_false, Bool.and_eq_true, Bool.or_eq_true, Bool.and_eq_false_iff, Bool.or_eq_false_iff, gt_iff_lt, ge_iff_le, Bool.false_eq_true, Bool.true_eq_false, reduceCtorEq, or_false, false_or, or_true, true_or, false_and, and_false] at hb; try (exfalso; omega)))
        | (with_reducible refine kon_cond fun R1 R2 h1 h2 => ?_
           dsimp only [go_sem]
           first
             | (with_reducible refine h1 ?_; clear h1 h2 R1 R2)
             | (with_reducible refine h2 ?_; clear h1 h2 R1 R2)
             | ((split <;> rename_i hb <;> first
                 | (with_reducible refine h1 ?_; clear h1 h2 R1 R2; try simp only [hb])
                 | (with_reducible refine h2 ?_; clear h1 h2 R1 R2; try simp only [hb])) <;> (try simp only [decide_eq_true_eq, decide_eq_false_iff_not, beq_iff_eq, beq_eq_false_iff_ne, bne_iff_ne, bne_eq_false_iff_eq, Bool.not_eq_true, Bool.not_eq_false, Bool.not_eq_eq_eq_not, Bool.not_true, Bool.not_false, ne_eq, Int.not_lt, Int.not_le, eq_self, not_true_eq_false, not_false_eq_true, decide_true, decide_false, Bool.and_eq_true, Bool.or_eq_true, Bool.and_eq_false_iff, Bool.or_eq_false_iff, gt_iff_lt, ge_iff_le, Bool.false_eq_true, Bool.true_eq_false, reduceCtorEq, or_false, false_or, or_true, true_or, false_and, and_false] at hb; try (exfalso; omega))))
      all_goals first
        | (dsimp only [kon]
           with_reducible refine hQ _ _ _ ?_
           dsimp only [kon, endQ, af162, conEqDoubt, go_sem, Nat.reduceAdd, Nat.reduceMul, Nat.reduceSub, Nat.reduceBEq, Nat.reduceLeDiff, Nat.reduceEqDiff, ↓dreduceIte, toG]
           try simp (disch := first | omega | (simp only [List.length_set, List.length_append, List.length_cons, List.length_nil, List.length_replicate]; omega)) only [guardP_T, guardP_pos, iteN, rd_set, List.set_set, List.length_set, eta_fact, eta_rumor, eta_doubt, eta_item, eta_rec, eta_due, look, look0, rd_toNat, wrap64, Int.toNat_natCast, Nat.zero_add, List.take_length, List.drop_zero, and_self, setB_len, true_and, and_true]
           try dsimp only [go_sem, Nat.reduceAdd, Nat.reduceMul, Nat.reduceSub, Nat.reduceBEq, Nat.reduceLeDiff, Nat.reduceEqDiff, ↓dreduceIte, toG])
        | skip
      all_goals try first
        | omega
        | (simp; done)
        | (simp; omega)
      all_goals (simp_all)
    · simp at h'

def conToDoubtS : Con := ⟨[.imm .doubt], .own .doubt, fun as => match as with
  | [.sl .doubt l] => guardP (l.length ≤ 1048576 ∧ True) (some (.own .doubt l, []))
  | _ => none⟩

def tb96 : Tab := fun f => match f with
  | 159 => some conToDoubt
  | _ => none

theorem tb96_159 : tb96 159 = some conToDoubt := rfl

-- loop.example/g00678/laws.toDoubtS hows []
def lp96_0 : AC := .seq (.seq (.reg [⟨some 8, .mv (.t 4), none⟩,
        ⟨some 9, .mv (.t 0), none⟩,
        ⟨some 10, .len (.t 9), none⟩,
        ⟨some 11, .bin .lss (.t 8) (.t 10), none⟩])
      (.cond (.t 11)
        (.skip)
        (.exit 0)))
      (.seq (.block 1 (.reg [⟨some 14, .mv (.t 3), none⟩,
          ⟨some 15, .mv (.t 4), none⟩,
          ⟨some 16, .mv (.t 0), none⟩,
          ⟨some 17, .mv (.t 4), none⟩,
          ⟨some 18, .ia .doubt (.t 16) (.t 17), none⟩,
          ⟨some 19, .ld true 3 (.t 18), none⟩,
          ⟨some 20, .call 159 [(.t 19)], none⟩,
          ⟨some 21, .ia .doubt (.t 14) (.t 15), none⟩,
          ⟨none, .st 3 (.t 21) (.t 20), none⟩]))
      (.reg [⟨some 12, .mv (.t 4), none⟩,
        ⟨some 13, .bin .add (.t 12) (.i 1), none⟩,
        ⟨some 4, .mv (.t 13), none⟩]))
def af96 : AF := ⟨23, [.t 2],
  .seq (.reg [⟨some 2, .mv (.c (.nil)), none⟩])
  (.seq (.reg [⟨some 5, .mv (.t 0), none⟩,
    ⟨some 6, .len (.t 5), none⟩,
    ⟨some 7, .mk .doubt (zeroK .doubt) (.t 6) (.t 6), none⟩,
    ⟨some 3, .mv (.t 7), none⟩])
  (.seq (.seq (.reg [⟨some 4, .mv (.i 0), none⟩])
  (.block 0 (.loop lp96_0)))
  (.seq (.reg [⟨some 22, .mv (.t 3), none⟩,
    ⟨some 2, .mv (.t 22), none⟩])
  (.ret))))⟩

set_option maxHeartbeats 4000000 in
theorem does96 (as : List AV) (hok : ok 64 as) : Does tb96 af96 conToDoubtS as := by
  cases h : (conToDoubtS).run as with
  | none => exact does_none h
  | some out =>
    have h' := h
    simp only [conToDoubtS] at h'
    split at h'
    · rename_i l
      by_cases hp : l.length ≤ 1048576 ∧ True
      case neg => simp [guardP, hp] at h'
      rw [guardP_pos hp] at h'
      obtain ⟨hp1, _⟩ := hp
      simp only [Option.some.injEq] at h'
      subst h'
      have hmo : (most : Int) = 1099511627776 := rfl
      have hml : (maxLen : Int) = 9223372036854775807 := rfl
      with_reducible refine does_by h fun Q hQ => ?_
      clear h
      dsimp only [af96, conToDoubtS, go_sem, Nat.reduceAdd, Nat.reduceMul, Nat.reduceSub, Nat.reduceBEq, Nat.reduceLeDiff, Nat.reduceEqDiff, ↓dreduceIte, toG, tb96_159, conToDoubt]
      repeat' first
        | with_reducible refine kon_seq ?_
        | with_reducible refine kon_nil ?_
        | with_reducible refine kon_any ?_ ?_
        | with_reducible exact kon_any_nil
        | with_reducible refine kon_skip ?_
        | with_reducible refine kon_block ?_
        | with_reducible refine kon_ret ?_
        | with_reducible refine kon_exit ?_
        | with_reducible refine kon_past_ret ?_
        | with_reducible refine kon_past_exit ?_
        | with_reducible refine kon_blk_ret ?_
        | with_reducible refine kon_blk_end ?_
        | with_reducible refine kon_blk_exit ?_
        | (with_reducible refine kon_blk_past ?_ ?_
           · decide)
        | with_reducible refine loop_exit ?_
        | with_reducible refine loop_ret ?_
        | with_reducible refine mid_exit ?_
        | with_reducible refine mid_ret ?_
        | ((first | with_reducible refine kon_bin fun R hR => ?_ | with_reducible refine kon_conv fun R hR => ?_)
           dsimp only [go_sem, Nat.reduceAdd, Nat.reduceMul, Nat.reduceSub, Nat.reduceBEq, Nat.reduceLeDiff, Nat.reduceEqDiff, ↓dreduceIte, toG, tb96_159, conToDoubt]
           try simp (disch := first | omega | (simp only [List.length_set, List.length_append, List.length_cons, List.length_nil, List.length_replicate]; omega)) only [guardP_T, guardP_pos, iteN, rd_set, List.set_set, List.length_set, eta_fact, eta_rumor, eta_doubt, eta_item, eta_rec, eta_due, look, look0, rd_toNat, wrap64, Int.toNat_natCast, Nat.zero_add, List.take_length, List.drop_zero, and_self, setB_len, true_and, and_true]
           with_reducible refine hR _ ?_
           clear hR R)
        | (with_reducible refine kon_ins fun R hR => ?_
           dsimp only [go_sem, Nat.reduceAdd, Nat.reduceMul, Nat.reduceSub, Nat.reduceBEq, Nat.reduceLeDiff, Nat.reduceEqDiff, ↓dreduceIte, toG, tb96_159, conToDoubt]
           first
             | with_reducible refine hR _ ?_
             | (simp (disch := first | omega | (simp only [List.length_set, List.length_append, List.length_cons, List.length_nil, List.length_replicate]; omega)) only [guardP_T, guardP_pos, iteN, rd_set, List.set_set, List.length_set, eta_fact, eta_rumor, eta_doubt, eta_item, eta_rec, eta_due, look, look0, rd_toNat, wrap64, Int.toNat_natCast, Nat.zero_add, List.take_length, List.drop_zero, and_self, setB_len, true_and, and_true]
                try dsimp only [go_sem, Nat.reduceAdd, Nat.reduceMul, Nat.reduceSub, Nat.reduceBEq, Nat.reduceLeDiff, Nat.reduceEqDiff, ↓dreduceIte, toG, tb96_159, conToDoubt]
                try simp (disch := first | omega | (simp only [List.length_set, List.length_append, List.length_cons, List.length_nil, List.length_replicate]; omega)) only [guardP_T, guardP_pos, iteN, rd_set, List.set_set, List.length_set, eta_fact, eta_rumor, eta_doubt, eta_item, eta_rec, eta_due, look, look0, rd_toNat, wrap64, Int.toNat_natCast, Nat.zero_add, List.take_length, List.drop_zero, and_self, setB_len, true_and, and_true]
                with_reducible refine hR _ ?_)
           clear hR R)
        | (with_reducible refine kon_g_run ?_ ?_
           · dsimp only [nth] <;> with_reducible rfl)
        | (with_reducible refine kon_g_skip ?_ ?_
           · dsimp only [nth, not_t', not_f'] <;> with_reducible rfl
           dsimp only [go_sem])
        | (with_reducible refine kon_g_undef ?_ ?_
           · dsimp only [nth] <;> with_reducible rfl
           dsimp only [go_sem])
        | (with_reducible refine kon_g fun R hR => ?_
           dsimp only [go_sem, Nat.reduceAdd, Nat.reduceMul, Nat.reduceSub, Nat.reduceBEq, Nat.reduceLeDiff, Nat.reduceEqDiff, ↓dreduceIte, toG, tb96_159, conToDoubt]
           split <;> (rename_i hb; with_reducible refine hR _ ?_; clear hR R; try simp only [hb]; try simp only [decide_eq_true_eq, decide_eq_false_iff_not, beq_iff_eq, beq_eq_false_iff_ne, bne_iff_ne, bne_eq_false_iff_eq, Bool.not_eq_true, Bool.not_eq_false, Bool.not_eq_eq_eq_not, Bool.not_true, Bool.not_false, ne_eq, Int.not_lt, Int.not_le, eq_self, not_true_eq_false, not_false_eq_true, decide_true, decide_false, Bool.and_eq_true, Bool.or_eq_true, Bool.and_eq_false_iff, Bool.or_eq_false_iff, gt_iff_lt, ge_iff_le, Bool.false_eq_true, Bool.true_eq_false, reduceCtorEq, or_false, false_or, or_true, true_or, false_and, and_false] at hb; try (exfalso; omega)))
        | (with_reducible refine kon_cond fun R1 R2 h1 h2 => ?_
           dsimp only [go_sem]
           first
             | (with_reducible refine h1 ?_; clear h1 h2 R1 R2)
             | (with_reducible refine h2 ?_; clear h1 h2 R1 R2)
             | ((split <;> rename_i hb <;> first
                 | (with_reducible refine h1 ?_; clear h1 h2 R1 R2; try simp only [hb])
                 | (with_reducible refine h2 ?_; clear h1 h2 R1 R2; try simp only [hb])) <;> (try simp only [decide_eq_true_eq, decide_eq_false_iff_not, beq_iff_eq, beq_eq_false_iff_ne, bne_iff_ne, bne_eq_false_iff_eq, Bool.not_eq_true, Bool.not_eq_false, Bool.not_eq_eq_eq_not, Bool.not_true, Bool.not_false, ne_eq, Int.not_lt, Int.not_le, eq_self, not_true_eq_false, not_false_eq_true, decide_true, decide_false, Bool.and_eq_true, Bool.or_eq_true, Bool.and_eq_false_iff, Bool.or_eq_false_iff, gt_iff_lt, ge_iff_le, Bool.false_eq_true, Bool.true_eq_false, reduceCtorEq, or_false, false_or, or_true, true_or, false_and, and_false] at hb; try (exfalso; omega))))
        | (with_reducible refine kon_rounds (a := lp96_0) [0, 3, 4] (fun n9 s9 => ∃ (i : Int) (o : List Doubt), ((0 ≤ i) ∧ (i ≤ l.length) ∧ (o.length = l.length) ∧ (o = l.take i.toNat ++ (List.replicate l.length (⟨0, 0, 0⟩ : Doubt)).drop i.toNat)) ∧ n9 = (l.length - i).toNat ∧ s9.m = [.row 0 .doubt o] ∧ s9.t = [.sl .doubt l, nth s9.t 1, nth s9.t 2, .ms 0 0 0 l.length, .int .i64 i, nth s9.t 5, nth s9.t 6, nth s9.t 7, nth s9.t 8, nth s9.t 9, nth s9.t 10, nth s9.t 11, nth s9.t 12, nth s9.t 13, nth s9.t 14, nth s9.t 15, nth s9.t 16, nth s9.t 17, nth s9.t 18, nth s9.t 19, nth s9.t 20, nth s9.t 21, nth s9.t 22]) ?_ ?_
           all_goals first
             | (rintro n9 ⟨t9, m9⟩ ⟨i, o, ⟨hI0, hI1, hI2, hI3⟩, rfl, hm9, ht9⟩
                dsimp only at hm9 ht9
                subst hm9
                rw [ht9]
                clear ht9
                dsimp only [lp96_0])
             | (dsimp only [go_sem, Nat.reduceAdd, Nat.reduceMul, Nat.reduceSub, Nat.reduceBEq, Nat.reduceLeDiff, Nat.reduceEqDiff, ↓dreduceIte, toG, tb96_159, conToDoubt]
                refine ⟨_, _, _, ⟨?_, ?_, ?_, ?_⟩, rfl, rfl, rfl⟩))
        | (with_reducible refine loop_again (keep := [0, 3, 4]) ?_
           dsimp only [go_sem, Nat.reduceAdd, Nat.reduceMul, Nat.reduceSub, Nat.reduceBEq, Nat.reduceLeDiff, Nat.reduceEqDiff, ↓dreduceIte, toG, tb96_159, conToDoubt]
           refine ⟨_, ?_, _, _, ⟨?_, ?_, ?_, ?_⟩, rfl, rfl, rfl⟩)
      all_goals first
        | (dsimp only [kon]
           with_reducible refine hQ _ _ _ ?_
           dsimp only [kon, endQ, af96, conToDoubtS, go_sem, Nat.reduceAdd, Nat.reduceMul, Nat.reduceSub, Nat.reduceBEq, Nat.reduceLeDiff, Nat.reduceEqDiff, ↓dreduceIte, toG, tb96_159, conToDoubt]
           try simp (disch := first | omega | (simp only [List.length_set, List.length_append, List.length_cons, List.length_nil, List.length_replicate]; omega)) only [guardP_T, guardP_pos, iteN, rd_set, List.set_set, List.length_set, eta_fact, eta_rumor, eta_doubt, eta_item, eta_rec, eta_due, look, look0, rd_toNat, wrap64, Int.toNat_natCast, Nat.zero_add, List.take_length, List.drop_zero, and_self, setB_len, true_and, and_true]
           try dsimp only [go_sem, Nat.reduceAdd, Nat.reduceMul, Nat.reduceSub, Nat.reduceBEq, Nat.reduceLeDiff, Nat.reduceEqDiff, ↓dreduceIte, toG, tb96_159, conToDoubt])
        | skip
      all_goals try first
        | omega
        | (simp; done)
        | (simp; omega)
      all_goals first
        | (simp [hI2]; done)
        | (rw [hI3, take_rd (by omega) (by omega), fill_rd (by omega) (by simp; omega) (by simp; omega)])
        | (rw [hI3, take_all (by omega), drop_all (by simp; omega), List.append_nil])
    · simp at h'

def conEqDoubtS : Con := ⟨[.imm .doubt, .imm .doubt], .v, fun as => match as with
  | [.sl .doubt a, .sl .doubt b] => some (.bool (decide (a = b)), [])
  | _ => none⟩

def tb107 : Tab := fun f => match f with
  | 162 => some conEqDoubt
  | _ => none

theorem tb107_162 : tb107 162 = some conEqDoubt := rfl

-- loop.example/g00678/laws.eqDoubtS hows [(6, [.any, .any, .any, .any, .any, .any, .any, .any, .pure, .any], [])]
def lp107_0 : AC := .seq (.seq (.reg [⟨some 11, .mv (.t 5), none⟩,
        ⟨some 12, .mv (.t 0), none⟩,
        ⟨some 13, .len (.t 12), none⟩,
        ⟨some 14, .bin .lss (.t 11) (.t 13), none⟩])
      (.cond (.t 14)
        (.skip)
        (.exit 0)))
      (.seq (.block 1 (.seq (.reg [⟨some 17, .mv (.t 0), none⟩,
          ⟨some 18, .mv (.t 5), none⟩,
          ⟨some 19, .ia .doubt (.t 17) (.t 18), none⟩,
          ⟨some 20, .ld true 3 (.t 19), none⟩,
          ⟨some 21, .mv (.t 1), none⟩,
          ⟨some 22, .mv (.t 5), none⟩,
          ⟨some 23, .ia .doubt (.t 21) (.t 22), none⟩,
          ⟨some 24, .ld true 3 (.t 23), none⟩,
          ⟨some 25, .callp 162 [(.t 20), (.t 24)], none⟩,
          ⟨some 26, .un .not (.t 25), none⟩])
        (.cond (.t 26)
          (.seq (.reg [⟨some 4, .mv (.b false), none⟩])
          (.ret))
          (.skip))))
      (.reg [⟨some 15, .mv (.t 5), none⟩,
        ⟨some 16, .bin .add (.t 15) (.i 1), none⟩,
        ⟨some 5, .mv (.t 16), none⟩]))
def af107 : AF := ⟨27, [.t 4],
  .seq (.reg [⟨some 4, .mv (.b false), none⟩])
  (.seq (.seq (.reg [⟨some 6, .mv (.t 0), none⟩,
    ⟨some 7, .len (.t 6), none⟩,
    ⟨some 8, .mv (.t 1), none⟩,
    ⟨some 9, .len (.t 8), none⟩,
    ⟨some 10, .bin .neq (.t 7) (.t 9), none⟩])
  (.cond (.t 10)
    (.seq (.reg [⟨some 4, .mv (.b false), none⟩])
    (.ret))
    (.skip)))
  (.seq (.seq (.reg [⟨some 5, .mv (.i 0), none⟩])
  (.block 0 (.loop lp107_0)))
  (.seq (.reg [⟨some 4, .mv (.b true), none⟩])
  (.ret))))⟩

set_option maxHeartbeats 4000000 in
theorem does107 (as : List AV) (hok : ok 64 as) : Does tb107 af107 conEqDoubtS as := by
  cases h : (conEqDoubtS).run as with
  | none => exact does_none h
  | some out =>
    have h' := h
    simp only [conEqDoubtS] at h'
    split at h'
    · rename_i a b
      simp only [ok] at hok
      obtain ⟨⟨ha, _⟩, ⟨hb, _⟩, _⟩ := hok
      simp only [Option.some.injEq] at h'
      subst h'
      have hmo : (most : Int) = 1099511627776 := rfl
      have hml : (maxLen : Int) = 9223372036854775807 := rfl
      with_reducible refine does_by h fun Q hQ => ?_
      clear h
      dsimp only [af107, conEqDoubtS, go_sem, Nat.reduceAdd, Nat.reduceMul, Nat.reduceSub, Nat.reduceBEq, Nat.reduceLeDiff, Nat.reduceEqDiff, ↓dreduceIte, toG, tb107_162, conEqDoubt]
      repeat' first
        | with_reducible refine kon_seq ?_
        | with_reducible refine kon_nil ?_
        | with_reducible refine kon_any ?_ ?_
        | with_reducible exact kon_any_nil
        | with_reducible refine kon_skip ?_
        | with_reducible refine kon_block ?_
        | with_reducible refine kon_ret ?_
        | with_reducible refine kon_exit ?_
        | with_reducible refine kon_past_ret ?_
        | with_reducible refine kon_past_exit ?_
        | with_reducible refine kon_blk_ret ?_
        | with_reducible refine kon_blk_end ?_
        | with_reducible refine kon_blk_exit ?_
        | (with_reducible refine kon_blk_past ?_ ?_
           · decide)
        | with_reducible refine loop_exit ?_
        | with_reducible refine loop_ret ?_
        | with_reducible refine mid_exit ?_
        | with_reducible refine mid_ret ?_
        | ((first | with_reducible refine kon_bin fun R hR => ?_ | with_reducible refine kon_conv fun R hR => ?_)
           dsimp only [go_sem, Nat.reduceAdd, Nat.reduceMul, Nat.reduceSub, Nat.reduceBEq, Nat.reduceLeDiff, Nat.reduceEqDiff, ↓dreduceIte, toG, tb107_162, conEqDoubt]
           try simp (disch := first | omega | (simp only [List.length_set, List.length_append, List.length_cons, List.length_nil, List.length_replicate]; omega)) only [guardP_T, guardP_pos, iteN, rd_set, List.set_set, List.length_set, eta_fact, eta_rumor, eta_doubt, eta_item, eta_rec, eta_due, look, look0, rd_toNat, wrap64, Int.toNat_natCast, Nat.zero_add, List.take_length, List.drop_zero, and_self, setB_len, true_and, and_true]
           with_reducible refine hR _ ?_
           clear hR R)
        | (with_reducible refine kon_ins fun R hR => ?_
           dsimp only [go_sem, Nat.reduceAdd, Nat.reduceMul, Nat.reduceSub, Nat.reduceBEq, Nat.reduceLeDiff, Nat.reduceEqDiff, ↓dreduceIte, toG, tb107_162, conEqDoubt]
           first
             | with_reducible refine hR _ ?_
             | (simp (disch := first | omega | (simp only [List.length_set, List.length_append, List.length_cons, List.length_nil, List.length_replicate]; omega)) only [guardP_T, guardP_pos, iteN, rd_set, List.set_set, List.length_set, eta_fact, eta_rumor, eta_doubt, eta_item, eta_rec, eta_due, look, look0, rd_toNat, wrap64, Int.toNat_natCast, Nat.zero_add, List.take_length, List.drop_zero, and_self, setB_len, true_and, and_true]
                try dsimp only [go_sem, Nat.reduceAdd, Nat.reduceMul, Nat.reduceSub, Nat.reduceBEq, Nat.reduceLeDiff, Nat.reduceEqDiff, ↓dreduceIte, toG, tb107_162, conEqDoubt]
                try simp (disch := first | omega | (simp only [List.length_set, List.length_append, List.length_cons, List.length_nil, List.length_replicate]; omega)) only [guardP_T, guardP_pos, iteN, rd_set, List.set_set, List.length_set, eta_fact, eta_rumor, eta_doubt, eta_item, eta_rec, eta_due, look, look0, rd_toNat, wrap64, Int.toNat_natCast, Nat.zero_add, List.take_length, List.drop_zero, and_self, setB_len, true_and, and_true]
                with_reducible refine hR _ ?_)
           clear hR R)
        | (with_reducible refine kon_g_run ?_ ?_
           · dsimp only [nth] <;> with_reducible rfl)
        | (with_reducible refine kon_g_skip ?_ ?_
           · dsimp only [nth, not_t', not_f'] <;> with_reducible rfl
           dsimp only [go_sem])
        | (with_reducible refine kon_g_undef ?_ ?_
           · dsimp only [nth] <;> with_reducible rfl
           dsimp only [go_sem])
        | (with_reducible refine kon_g fun R hR => ?_
           dsimp only [go_sem, Nat.reduceAdd, Nat.reduceMul, Nat.reduceSub, Nat.reduceBEq, Nat.reduceLeDiff, Nat.reduceEqDiff, ↓dreduceIte, toG, tb107_162, conEqDoubt]
           split <;> (rename_i hb; with_reducible refine hR _ ?_; clear hR R; try simp only [hb]; try simp only [decide_eq_true_eq, decide_eq_false_iff_not, beq_iff_eq, beq_eq_false_iff_ne, bne_iff_ne, bne_eq_false_iff_eq, Bool.not_eq_true, Bool.not_eq_false, Bool.not_eq_eq_eq_not, Bool.not_true, Bool.not_false, ne_eq, Int.not_lt, Int.not_le, eq_self, not_true_eq_false, not_false_eq_true, decide_true, decide_false, Bool.and_eq_true, Bool.or_eq_true, Bool.and_eq_false_iff, Bool.or_eq_false_iff, gt_iff_lt, ge_iff_le, Bool.false_eq_true, Bool.true_eq_false, reduceCtorEq, or_false, false_or, or_true, true_or, false_and, and_false] at hb; try (exfalso; omega)))
        | (with_reducible refine kon_cond fun R1 R2 h1 h2 => ?_
           dsimp only [go_sem]
           first
             | (with_reducible refine h1 ?_; clear h1 h2 R1 R2)
             | (with_reducible refine h2 ?_; clear h1 h2 R1 R2)
             | ((split <;> rename_i hb <;> first
                 | (with_reducible refine h1 ?_; clear h1 h2 R1 R2; try simp only [hb])
                 | (with_reducible refine h2 ?_; clear h1 h2 R1 R2; try simp only [hb])) <;> (try simp only [decide_eq_true_eq, decide_eq_false_iff_not, beq_iff_eq, beq_eq_false_iff_ne, bne_iff_ne, bne_eq_false_iff_eq, Bool.not_eq_true, Bool.not_eq_false, Bool.not_eq_eq_eq_not, Bool.not_true, Bool.not_false, ne_eq, Int.not_lt, Int.not_le, eq_self, not_true_eq_false, not_false_eq_true, decide_true, decide_false, Bool.and_eq_true, Bool.or_eq_true, Bool.and_eq_false_iff, Bool.or_eq_false_iff, gt_iff_lt, ge_iff_le, Bool.false_eq_true, Bool.true_eq_false, reduceCtorEq, or_false, false_or, or_true, true_or, false_and, and_false] at hb; try (exfalso; omega))))
        | (with_reducible refine kon_rounds (a := lp107_0) [0, 1, 5] (fun n9 s9 => ∃ (i : Int), ((0 ≤ i) ∧ (i ≤ a.length) ∧ (a.take i.toNat = b.take i.toNat)) ∧ n9 = (a.length - i).toNat ∧ s9.m = [] ∧ s9.t = [.sl .doubt a, .sl .doubt b, nth s9.t 2, nth s9.t 3, nth s9.t 4, .int .i64 i, nth s9.t 6, nth s9.t 7, nth s9.t 8, nth s9.t 9, nth s9.t 10, nth s9.t 11, nth s9.t 12, nth s9.t 13, nth s9.t 14, nth s9.t 15, nth s9.t 16, nth s9.t 17, nth s9.t 18, nth s9.t 19, nth s9.t 20, nth s9.t 21, nth s9.t 22, nth s9.t 23, nth s9.t 24, nth s9.t 25, nth s9.t 26]) ?_ ?_
           all_goals first
             | (rintro n9 ⟨t9, m9⟩ ⟨i, ⟨hI0, hI1, hI2⟩, rfl, hm9, ht9⟩
                dsimp only at hm9 ht9
                subst hm9
                rw [ht9]
                clear ht9
                dsimp only [lp107_0])
             | (dsimp only [go_sem, Nat.reduceAdd, Nat.reduceMul, Nat.reduceSub, Nat.reduceBEq, Nat.reduceLeDiff, Nat.reduceEqDiff, ↓dreduceIte, toG, tb107_162, conEqDoubt]
                refine ⟨_, _, ⟨?_, ?_, ?_⟩, rfl, rfl, rfl⟩))
        | (with_reducible refine loop_again (keep := [0, 1, 5]) ?_
           dsimp only [go_sem, Nat.reduceAdd, Nat.reduceMul, Nat.reduceSub, Nat.reduceBEq, Nat.reduceLeDiff, Nat.reduceEqDiff, ↓dreduceIte, toG, tb107_162, conEqDoubt]
           refine ⟨_, ?_, _, ⟨?_, ?_, ?_⟩, rfl, rfl, rfl⟩)
      all_goals first
        | (dsimp only [kon]
           with_reducible refine hQ _ _ _ ?_
           dsimp only [kon, endQ, af107, conEqDoubtS, go_sem, Nat.reduceAdd, Nat.reduceMul, Nat.reduceSub, Nat.reduceBEq, Nat.reduceLeDiff, Nat.reduceEqDiff, ↓dreduceIte, toG, tb107_162, conEqDoubt]
           try simp (disch := first | omega | (simp only [List.length_set, List.length_append, List.length_cons, List.length_nil, List.length_replicate]; omega)) only [guardP_T, guardP_pos, iteN, rd_set, List.set_set, List.length_set, eta_fact, eta_rumor, eta_doubt, eta_item, eta_rec, eta_due, look, look0, rd_toNat, wrap64, Int.toNat_natCast, Nat.zero_add, List.take_length, List.drop_zero, and_self, setB_len, true_and, and_true]
           try dsimp only [go_sem, Nat.reduceAdd, Nat.reduceMul, Nat.reduceSub, Nat.reduceBEq, Nat.reduceLeDiff, Nat.reduceEqDiff, ↓dreduceIte, toG, tb107_162, conEqDoubt])
        | skip
      all_goals try first
        | omega
        | (simp; done)
        | (simp; omega)
      all_goals first
        | (rw [take_rd (by omega) (by omega), take_rd (by omega) (by omega), hI2]
           simp_all
           done)
        | (rw [take_rd (by omega) (by omega), take_rd (by omega) (by omega), hI2]
           cases hA : rd a i
           cases hB : rd b i
           simp_all
           done)
        | (have hne : a ≠ b := by
             rintro rfl
             simp_all
           simp [hne])
        | (rw [take_all (by omega), take_all (by omega)] at hI2
           simp [hI2])
    · simp at h'

def conSzDoubtS : Con := ⟨[.imm .doubt, .v], .v, fun as => match as with
  | [.sl .doubt l, .int .i64 n] => guardP (0 ≤ n ∧ n ≤ 1048576) (some (.int .i64 (szN n l.length), []))
  | _ => none⟩

-- loop.example/g00678/laws.szDoubtS hows []
def af84 : AF := ⟨12, [.t 4],
  .seq (.reg [⟨some 4, .mv (.i 0), none⟩])
  (.seq (.reg [⟨some 5, .mv (.t 1), none⟩,
    ⟨some 6, .mv (.t 0), none⟩,
    ⟨some 7, .len (.t 6), none⟩,
    ⟨some 8, .bin .sub (.t 5) (.t 7), none⟩,
    ⟨some 1, .mv (.t 8), none⟩])
  (.seq (.seq (.reg [⟨some 9, .mv (.t 1), none⟩,
    ⟨some 10, .bin .lss (.t 9) (.i 0), none⟩])
  (.cond (.t 10)
    (.seq (.reg [⟨some 4, .mv (.i (-1)), none⟩])
    (.ret))
    (.skip)))
  (.seq (.reg [⟨some 11, .mv (.t 1), none⟩,
    ⟨some 4, .mv (.t 11), none⟩])
  (.ret))))⟩

set_option maxHeartbeats 4000000 in
theorem does84 (as : List AV) (hok : ok 64 as) : Does tbNone af84 conSzDoubtS as := by
  cases h : (conSzDoubtS).run as with
  | none => exact does_none h
  | some out =>
    have h' := h
    simp only [conSzDoubtS] at h'
    split at h'
    · rename_i l n
      by_cases hp : 0 ≤ n ∧ n ≤ 1048576
      case neg => simp [guardP, hp] at h'
      rw [guardP_pos hp] at h'
      obtain ⟨hp1, hp2⟩ := hp
      simp only [ok] at hok
      obtain ⟨⟨ha, _⟩, _⟩ := hok
      simp only [Option.some.injEq] at h'
      subst h'
      have hmo : (most : Int) = 1099511627776 := rfl
      have hml : (maxLen : Int) = 9223372036854775807 := rfl
      with_reducible refine does_by h fun Q hQ => ?_
      clear h
      dsimp only [af84, conSzDoubtS, go_sem, Nat.reduceAdd, Nat.reduceMul, Nat.reduceSub, Nat.reduceBEq, Nat.reduceLeDiff, Nat.reduceEqDiff, ↓dreduceIte, toG]
      repeat' first
        | with_reducible refine kon_seq ?_
        | with_reducible refine kon_nil ?_
        | with_reducible refine kon_any ?_ ?_
        | with_reducible exact kon_any_nil
        | with_reducible refine kon_skip ?_
        | with_reducible refine kon_block ?_
        | with_reducible refine kon_ret ?_
        | with_reducible refine kon_exit ?_
        | with_reducible refine kon_past_ret ?_
        | with_reducible refine kon_past_exit ?_
        | with_reducible refine kon_blk_ret ?_
        | with_reducible refine kon_blk_end ?_
        | with_reducible refine kon_blk_exit ?_
        | (with_reducible refine kon_blk_past ?_ ?_
           · decide)
        | with_reducible refine loop_exit ?_
        | with_reducible refine loop_ret ?_
        | with_reducible refine mid_exit ?_
        | with_reducible refine mid_ret ?_
        | ((first | with_reducible refine kon_bin fun R hR => ?_ | with_reducible refine kon_conv fun R hR => ?_)
           dsimp only [go_sem, Nat.reduceAdd, Nat.reduceMul, Nat.reduceSub, Nat.reduceBEq, Nat.reduceLeDiff, Nat.reduceEqDiff, ↓dreduceIte, toG]
           try simp (disch := first | omega | (simp only [List.length_set, List.length_append, List.length_cons, List.length_nil, List.length_replicate]; omega)) only [guardP_T, guardP_pos, iteN, rd_set, List.set_set, List.length_set, eta_fact, eta_rumor, eta_doubt, eta_item, eta_rec, eta_due, look, look0, rd_toNat, wrap64, Int.toNat_natCast, Nat.zero_add, List.take_length, List.drop_zero, and_self, setB_len, true_and, and_true]
           with_reducible refine hR _ ?_
           clear hR R)
        | (with_reducible refine kon_ins fun R hR => ?_
           dsimp only [go_sem, Nat.reduceAdd, Nat.reduceMul, Nat.reduceSub, Nat.reduceBEq, Nat.reduceLeDiff, Nat.reduceEqDiff, ↓dreduceIte, toG]
           first
             | with_reducible refine hR _ ?_
             | (simp (disch := first | omega | (simp only [List.length_set, List.length_append, List.length_cons, List.length_nil, List.length_replicate]; omega)) only [guardP_T, guardP_pos, iteN, rd_set, List.set_set, List.length_set, eta_fact, eta_rumor, eta_doubt, eta_item, eta_rec, eta_due, look, look0, rd_toNat, wrap64, Int.toNat_natCast, Nat.zero_add, List.take_length, List.drop_zero, and_self, setB_len, true_and, and_true]
                try dsimp only [go_sem, Nat.reduceAdd, Nat.reduceMul, Nat.reduceSub, Nat.reduceBEq, Nat.reduceLeDiff, Nat.reduceEqDiff, ↓dreduceIte, toG]
                try simp (disch := first | omega | (simp only [List.length_set, List.length_append, List.length_cons, List.length_nil, List.length_replicate]; omega)) only [guardP_T, guardP_pos, iteN, rd_set, List.set_set, List.length_set, eta_fact, eta_rumor, eta_doubt, eta_item, eta_rec, eta_due, look, look0, rd_toNat, wrap64, Int.toNat_natCast, Nat.zero_add, List.take_length, List.drop_zero, and_self, setB_len, true_and, and_true]
                with_reducible refine hR _ ?_)
           clear hR R)
        | (with_reducible refine kon_g_run ?_ ?_
           · dsimp only [nth] <;> with_reducible rfl)
        | (with_reducible refine kon_g_skip ?_ ?_
           · dsimp only [nth, not_t', not_f'] <;> with_reducible rfl
           dsimp only [go_sem])
        | (with_reducible refine kon_g_undef ?_ ?_
           · dsimp only [nth] <;> with_reducible rfl
           dsimp only [go_sem])
        | (with_reducible refine kon_g fun R hR => ?_
           dsimp only [go_sem, Nat.reduceAdd, Nat.reduceMul, Nat.reduceSub, Nat.reduceBEq, Nat.reduceLeDiff, Nat.reduceEqDiff, ↓dreduceIte, toG]
           split <;> (rename_i hb; with_reducible refine hR _ ?_; clear hR R; try simp only [hb]; try simp only [decide_eq_true_eq, decide_eq_false_iff_not, beq_iff_eq, beq_eq_false_iff_ne, bne_iff_ne, bne_eq_false_iff_eq, Bool.not_eq_true, Bool.not_eq_false, Bool.not_eq_eq_eq_not, Bool.not_true, Bool.not_false, ne_eq, Int.not_lt, Int.not_le, eq_self, not_true_eq_false, not_false_eq_true, decide_true, decide_false, Bool.and_eq_true, Bool.or_eq_true, Bool.and_eq_false_iff, Bool.or_eq_false_iff, gt_iff_lt, ge_iff_le, Bool.false_eq_true, Bool.true_eq_false, reduceCtorEq, or_false, false_or, or_true, true_or, false_and, and_false] at hb; try (exfalso; omega)))
        | (with_reducible refine kon_cond fun R1 R2 h1 h2 => ?_
           dsimp only [go_sem]
           first
             | (with_reducible refine h1 ?_; clear h1 h2 R1 R2)
             | (with_reducible refine h2 ?_; clear h1 h2 R1 R2)
             | ((split <;> rename_i hb <;> first
                 | (with_reducible refine h1 ?_; clear h1 h2 R1 R2; try simp only [hb])
                 | (with_reducible refine h2 ?_; clear h1 h2 R1 R2; try simp only [hb])) <;> (try simp only [decide_eq_true_eq, decide_eq_false_iff_not, beq_iff_eq, beq_eq_false_iff_ne, bne_iff_ne, bne_eq_false_iff_eq, Bool.not_eq_true, Bool.not_eq_false, Bool.not_eq_eq_eq_not, Bool.not_true, Bool.not_false, ne_eq, Int.not_lt, Int.not_le, eq_self, not_true_eq_false, not_false_eq_true, decide_true, decide_false, Bool.and_eq_true, Bool.or_eq_true, Bool.and_eq_false_iff, Bool.or_eq_false_iff, gt_iff_lt, ge_iff_le, Bool.false_eq_true, Bool.true_eq_false, reduceCtorEq, or_false, false_or, or_true, true_or, false_and, and_false] at hb; try (exfalso; omega))))
      all_goals first
        | (dsimp only [kon]
           with_reducible refine hQ _ _ _ ?_
           dsimp only [kon, endQ, af84, conSzDoubtS, go_sem, Nat.reduceAdd, Nat.reduceMul, Nat.reduceSub, Nat.reduceBEq, Nat.reduceLeDiff, Nat.reduceEqDiff, ↓dreduceIte, toG]
           try simp (disch := first | omega | (simp only [List.length_set, List.length_append, List.length_cons, List.length_nil, List.length_replicate]; omega)) only [guardP_T, guardP_pos, iteN, rd_set, List.set_set, List.length_set, eta_fact, eta_rumor, eta_doubt, eta_item, eta_rec, eta_due, look, look0, rd_toNat, wrap64, Int.toNat_natCast, Nat.zero_add, List.take_length, List.drop_zero, and_self, setB_len, true_and, and_true]
           try dsimp only [go_sem, Nat.reduceAdd, Nat.reduceMul, Nat.reduceSub, Nat.reduceBEq, Nat.reduceLeDiff, Nat.reduceEqDiff, ↓dreduceIte, toG])
        | skip
      all_goals try first
        | omega
        | (simp; done)
        | (simp; omega)
      all_goals (simp only [szN, Option.some.injEq, Prod.mk.injEq, AV.int.injEq, and_true, true_and]; split <;> omega)
    · simp at h'

end Go.Proofs.Ytnghlmogcbmlfaa
