/- What breaks a clause: the program. -/
import Derived.Test.YtnghlmogcbmlfaaFitsD
namespace Go.Proofs.Ytnghlmogcbmlfaa
set_option linter.unusedVariables false
set_option linter.unusedSimpArgs false
set_option linter.unnecessarySimpa false

def conHasAhead : Con := ⟨[.imm .rcd, .v, .fn], .v, fun as => match as with
  | [.sl .rcd l, .int .i64 i, .fn f caps] => match semR f caps with
    | some p => guardP (0 ≤ i ∧ i ≤ l.length) (some (.bool (decide (0 ≤ lastI p l i.toNat)), []))
    | none => none
  | _ => none⟩

def conRisen : Con := ⟨[.imm .rcd, .v], .own .int, fun as => match as with
  | [.sl .rcd l, .int .i64 i] => guardP (0 ≤ i ∧ i < l.length ∧ l.length ≤ 400) (some (.own .int (selI (riseP (rd l i)) l (lastI (startP (rd l i).node) l i.toNat) i.toNat), []))
  | _ => none⟩

def conBreaksI : Con := ⟨[.imm .rcd, .v, .v], .v, fun as => match as with
  | [.sl .rcd l, .int .i64 i, .int .i64 c] => guardP (0 ≤ i ∧ i < l.length ∧ l.length ≤ 400) (some (.bool (breaksI l i c), []))
  | _ => none⟩

theorem riseP_eta (x r : Rec) : (r.node = x.node ∧ r.kind = 5 ∧ r.a = x.a ∧ lessB r.b r.c x.b x.c = false) = (riseP x r = true) := by
  simp [riseP]

-- loop.example/g00678/impl.hasAhead hows []
def af181 : AF := ⟨12, [.t 6],
  .seq (.reg [⟨some 6, .mv (.b false), none⟩])
  (.seq (.reg [⟨some 7, .mv (.t 0), none⟩,
    ⟨some 8, .mv (.t 1), none⟩,
    ⟨some 9, .mv (.t 2), none⟩,
    ⟨some 10, .call 146 [(.t 7), (.t 8), (.t 9)], none⟩,
    ⟨some 11, .bin .geq (.t 10) (.i 0), none⟩,
    ⟨some 6, .mv (.t 11), none⟩])
  (.ret))⟩

set_option maxHeartbeats 4000000 in
theorem does181 (as : List AV) (hok : ok 64 as) : Does tb193 af181 conHasAhead as := by
  cases h : (conHasAhead).run as with
  | none => exact does_none h
  | some out =>
    have h' := h
    simp only [conHasAhead] at h'
    split at h'
    · rename_i l i f caps
      cases hop : semR f caps with
      | none => simp [hop] at h'
      | some p =>
      simp only [hop] at h'
      have hids := semR_ids hop
      have hren := semR_ren hop
      have him := semR_im hop
      by_cases hp : 0 ≤ i ∧ i ≤ l.length
      case neg => simp [guardP, hp] at h'
      rw [guardP_pos hp] at h'
      obtain ⟨hp1, hp2⟩ := hp
      simp only [Option.some.injEq] at h'
      subst h'
      have hmo : (most : Int) = 1099511627776 := rfl
      have hml : (maxLen : Int) = 9223372036854775807 := rfl
      with_reducible refine does_by h fun Q hQ => ?_
      clear h
      dsimp only [af181, conHasAhead, go_sem, Nat.reduceAdd, Nat.reduceMul, Nat.reduceSub, Nat.reduceBEq, Nat.reduceLeDiff, Nat.reduceEqDiff, ↓dreduceIte, toG, tb193_146, conLastOf]
      repeat' first
        | with_reducible refine kon_seq ?_
        | with_reducible refine kon_nil ?_
        | with_reducible refine kon_any ?_ ?_
        | with_reducible exact kon_any_nil
        | with_reducible refine kon_skip ?_
        | with_reducible refine kon_block ?_
        | with_reducible refine kon_ret ?_
        | with_reducible refine kon_exit ?_
        | with_reducible refine kon_past_ret ?_
        | with_reducible refine kon_past_exit ?_
        | with_reducible refine kon_blk_ret ?_
        | with_reducible refine kon_blk_end ?_
        | with_reducible refine kon_blk_exit ?_
        | (with_reducible refine kon_blk_past ?_ ?_
           · decide)
        | with_reducible refine loop_exit ?_
        | with_reducible refine loop_ret ?_
        | with_reducible refine mid_exit ?_
        | with_reducible refine mid_ret ?_
        | ((first | with_reducible refine kon_bin fun R hR => ?_ | with_reducible refine kon_conv fun R hR => ?_)
           dsimp only [go_sem, Nat.reduceAdd, Nat.reduceMul, Nat.reduceSub, Nat.reduceBEq, Nat.reduceLeDiff, Nat.reduceEqDiff, ↓dreduceIte, toG, tb193_146, conLastOf]
           try simp (disch := first | omega | (simp only [List.length_set, List.length_append, List.length_cons, List.length_nil, List.length_replicate]; omega)) only [guardP_T, guardP_pos, iteN, rd_set, List.set_set, List.length_set, eta_fact, eta_rumor, eta_doubt, eta_item, eta_rec, eta_due, look, look0, rd_toNat, wrap64, Int.toNat_natCast, Nat.zero_add, List.take_length, List.drop_zero, and_self, setB_len, true_and, and_true, hop, him]
           with_reducible refine hR _ ?_
           clear hR R)
        | (with_reducible refine kon_ins fun R hR => ?_
           dsimp only [go_sem, Nat.reduceAdd, Nat.reduceMul, Nat.reduceSub, Nat.reduceBEq, Nat.reduceLeDiff, Nat.reduceEqDiff, ↓dreduceIte, toG, tb193_146, conLastOf]
           first
             | with_reducible refine hR _ ?_
             | (simp (disch := first | omega | (simp only [List.length_set, List.length_append, List.length_cons, List.length_nil, List.length_replicate]; omega)) only [guardP_T, guardP_pos, iteN, rd_set, List.set_set, List.length_set, eta_fact, eta_rumor, eta_doubt, eta_item, eta_rec, eta_due, look, look0, rd_toNat, wrap64, Int.toNat_natCast, Nat.zero_add, List.take_length, List.drop_zero, and_self, setB_len, true_and, and_true, hop, him]
                try dsimp only [go_sem, Nat.reduceAdd, Nat.reduceMul, Nat.reduceSub, Nat.reduceBEq, Nat.reduceLeDiff, Nat.reduceEqDiff, ↓dreduceIte, toG, tb193_146, conLastOf]
                try simp (disch := first | omega | (simp only [List.length_set, List.length_append, List.length_cons, List.length_nil, List.length_replicate]; omega)) only [guardP_T, guardP_pos, iteN, rd_set, List.set_set, List.length_set, eta_fact, eta_rumor, eta_doubt, eta_item, eta_rec, eta_due, look, look0, rd_toNat, wrap64, Int.toNat_natCast, Nat.zero_add, List.take_length, List.drop_zero, and_self, setB_len, true_and, and_true, hop, him]
                with_reducible refine hR _ ?_)
           clear hR R)
        | (with_reducible refine kon_g_run ?_ ?_
           · dsimp only [nth] <;> with_reducible rfl)
        | (with_reducible refine kon_g_skip ?_ ?_
           · dsimp only [nth, not_t', not_f'] <;> with_reducible rfl
           dsimp only [go_sem])
        | (with_reducible refine kon_g_undef ?_ ?_
           · dsimp only [nth] <;> with_reducible rfl
           dsimp only [go_sem])
        | (with_reducible refine kon_g fun R hR => ?_
           dsimp only [go_sem, Nat.reduceAdd, Nat.reduceMul, Nat.reduceSub, Nat.reduceBEq, Nat.reduceLeDiff, Nat.reduceEqDiff, ↓dreduceIte, toG, tb193_146, conLastOf]
           split <;> (rename_i hb; with_reducible refine hR _ ?_; clear hR R; try simp only [hb]; try simp only [decide_eq_true_eq, decide_eq_false_iff_not, beq_iff_eq, beq_eq_false_iff_ne, bne_iff_ne, bne_eq_false_iff_eq, Bool.not_eq_true, Bool.not_eq_false, Bool.not_eq_eq_eq_not, Bool.not_true, Bool.not_false, ne_eq, Int.not_lt, Int.not_le, eq_self, not_true_eq_false, not_false_eq_true, decide_true, decide_false, Bool.and_eq_true, Bool.or_eq_true, Bool.and_eq_false_iff, Bool.or_eq_false_iff, gt_iff_lt, ge_iff_le, Bool.false_eq_true, Bool.true_eq_false, reduceCtorEq, or_false, false_or, or_true, true_or, false_and, and_false, hop, him] at hb; try (exfalso; omega)))
        | (with_reducible refine kon_cond fun R1 R2 h1 h2 => ?_
           dsimp only [go_sem]
           first
             | (with_reducible refine h1 ?_; clear h1 h2 R1 R2)
             | (with_reducible refine h2 ?_; clear h1 h2 R1 R2)
             | ((split <;> rename_i hb <;> first
                 | (with_reducible refine h1 ?_; clear h1 h2 R1 R2; try simp only [hb])
                 | (with_reducible refine h2 ?_; clear h1 h2 R1 R2; try simp only [hb])) <;> (try simp only [decide_eq_true_eq, decide_eq_false_iff_not, beq_iff_eq, beq_eq_false_iff_ne, bne_iff_ne, bne_eq_false_iff_eq, Bool.not_eq_true, Bool.not_eq_false, Bool.not_eq_eq_eq_not, Bool.not_true, Bool.not_false, ne_eq, Int.not_lt, Int.not_le, eq_self, not_true_eq_false, not_false_eq_true, decide_true, decide_false, Bool.and_eq_true, Bool.or_eq_true, Bool.and_eq_false_iff, Bool.or_eq_false_iff, gt_iff_lt, ge_iff_le, Bool.false_eq_true, Bool.true_eq_false, reduceCtorEq, or_false, false_or, or_true, true_or, false_and, and_false, hop, him] at hb; try (exfalso; omega))))
      all_goals first
        | (dsimp only [kon]
           with_reducible refine hQ _ _ _ ?_
           dsimp only [kon, endQ, af181, conHasAhead, go_sem, Nat.reduceAdd, Nat.reduceMul, Nat.reduceSub, Nat.reduceBEq, Nat.reduceLeDiff, Nat.reduceEqDiff, ↓dreduceIte, toG, tb193_146, conLastOf]
           try simp (disch := first | omega | (simp only [List.length_set, List.length_append, List.length_cons, List.length_nil, List.length_replicate]; omega)) only [guardP_T, guardP_pos, iteN, rd_set, List.set_set, List.length_set, eta_fact, eta_rumor, eta_doubt, eta_item, eta_rec, eta_due, look, look0, rd_toNat, wrap64, Int.toNat_natCast, Nat.zero_add, List.take_length, List.drop_zero, and_self, setB_len, true_and, and_true]
           try dsimp only [go_sem, Nat.reduceAdd, Nat.reduceMul, Nat.reduceSub, Nat.reduceBEq, Nat.reduceLeDiff, Nat.reduceEqDiff, ↓dreduceIte, toG, tb193_146, conLastOf])
        | skip
      all_goals try first
        | omega
        | (simp; done)
        | (simp; omega)
      all_goals rfl
    · simp at h'

def tb184 : Tab := fun f => match f with
  | 79 => some conFactOf
  | 146 => some conLastOf
  | 212 => some conLess
  | _ => none

theorem tb184_79 : tb184 79 = some conFactOf := rfl
theorem tb184_146 : tb184 146 = some conLastOf := rfl
theorem tb184_212 : tb184 212 = some conLess := rfl

-- loop.example/g00678/impl.risen hows [(8, [.any, .boxed, .any, .boxed, .any, .any, .any, .boxed, .any, .any, .any, .any, .boxed, .any, .boxed, .any, .any, .any, .boxed, .pure, .boxed, .pure, .pure, .any, .any], [])]
def lp184_0 : AC := .seq (.seq (.reg [⟨some 21, .mv (.t 8), none⟩,
        ⟨some 22, .mv (.t 1), none⟩,
        ⟨some 23, .bin .lss (.t 21) (.t 22), none⟩])
      (.cond (.t 23)
        (.skip)
        (.exit 0)))
      (.seq (.block 1 (.seq (.reg [⟨some 26, .mv (.t 0), none⟩,
          ⟨some 27, .mv (.t 8), none⟩,
          ⟨some 28, .ia .rcd (.t 26) (.t 27), none⟩,
          ⟨some 29, .ld true 6 (.t 28), none⟩,
          ⟨some 9, .box (.c (.agg [.int .i64 0, .int .i64 0, .int .i64 0, .int .i64 0, .int .i64 0, .int .i64 0])), none⟩,
          ⟨none, .st 6 (.t 9) (.t 29), none⟩])
        (.seq (.reg [⟨some 30, .fa 1 (.t 9), none⟩,
          ⟨some 31, .ldb false 1 (.t 30), none⟩,
          ⟨some 32, .fa 1 (.t 5), none⟩,
          ⟨some 33, .ldb false 1 (.t 32), none⟩,
          ⟨some 34, .bin .eql (.t 31) (.t 33), none⟩,
          ⟨some 35, .mv (.t 34), none⟩,
          ⟨some 36, .fa 2 (.t 9), some (35, true)⟩,
          ⟨some 37, .ldb false 1 (.t 36), some (35, true)⟩,
          ⟨some 38, .bin .eql (.t 37) (.i 5), some (35, true)⟩,
          ⟨some 39, .pick (.t 35) (.t 38) (.b false), none⟩,
          ⟨some 40, .mv (.t 39), none⟩,
          ⟨some 41, .fa 3 (.t 9), some (40, true)⟩,
          ⟨some 42, .ldb false 1 (.t 41), some (40, true)⟩,
          ⟨some 43, .fa 3 (.t 5), some (40, true)⟩,
          ⟨some 44, .ldb false 1 (.t 43), some (40, true)⟩,
          ⟨some 45, .bin .eql (.t 42) (.t 44), some (40, true)⟩,
          ⟨some 46, .pick (.t 40) (.t 45) (.b false), none⟩,
          ⟨some 47, .mv (.t 46), none⟩,
          ⟨some 48, .ldb true 6 (.t 9), some (47, true)⟩,
          ⟨some 49, .callp 79 [(.t 48)], some (47, true)⟩,
          ⟨some 50, .ldb true 6 (.t 5), some (47, true)⟩,
          ⟨some 51, .callp 79 [(.t 50)], some (47, true)⟩,
          ⟨some 52, .callp 212 [(.t 49), (.t 51)], some (47, true)⟩,
          ⟨some 53, .un .not (.t 52), some (47, true)⟩,
          ⟨some 54, .pick (.t 47) (.t 53) (.b false), none⟩])
        (.cond (.t 54)
          (.reg [⟨some 55, .mv (.t 7), none⟩,
            ⟨some 56, .mv (.t 8), none⟩,
            ⟨some 57, .slit .int [(.t 56)], none⟩,
            ⟨some 58, .app .int (.t 55) (.t 57), none⟩,
            ⟨some 7, .mv (.t 58), none⟩])
          (.skip)))))
      (.reg [⟨some 24, .mv (.t 8), none⟩,
        ⟨some 25, .bin .add (.t 24) (.i 1), none⟩,
        ⟨some 8, .mv (.t 25), none⟩]))
def af184 : AF := ⟨60, [.t 4],
  .seq (.reg [⟨some 4, .mv (.c (.nil)), none⟩])
  (.seq (.reg [⟨some 10, .mv (.t 0), none⟩,
    ⟨some 11, .mv (.t 1), none⟩,
    ⟨some 12, .ia .rcd (.t 10) (.t 11), none⟩,
    ⟨some 13, .ld true 6 (.t 12), none⟩,
    ⟨some 5, .box (.c (.agg [.int .i64 0, .int .i64 0, .int .i64 0, .int .i64 0, .int .i64 0, .int .i64 0])), none⟩,
    ⟨none, .st 6 (.t 5) (.t 13), none⟩])
  (.seq (.reg [⟨some 14, .mv (.t 0), none⟩,
    ⟨some 15, .mv (.t 1), none⟩,
    ⟨some 16, .mf 211 [(.t 5)], none⟩,
    ⟨some 17, .call 146 [(.t 14), (.t 15), (.t 16)], none⟩,
    ⟨some 6, .mv (.t 17), none⟩])
  (.seq (.reg [⟨some 18, .slit .int [], none⟩,
    ⟨some 7, .mv (.t 18), none⟩])
  (.seq (.seq (.reg [⟨some 19, .mv (.t 6), none⟩,
    ⟨some 20, .bin .add (.t 19) (.i 1), none⟩,
    ⟨some 8, .mv (.t 20), none⟩])
  (.block 0 (.loop lp184_0)))
  (.seq (.reg [⟨some 59, .mv (.t 7), none⟩,
    ⟨some 4, .mv (.t 59), none⟩])
  (.ret))))))⟩

set_option maxHeartbeats 4000000 in
theorem does184 (as : List AV) (hok : ok 64 as) : Does tb184 af184 conRisen as := by
  cases h : (conRisen).run as with
  | none => exact does_none h
  | some out =>
    have h' := h
    simp only [conRisen] at h'
    split at h'
    · rename_i l i
      by_cases hp : 0 ≤ i ∧ i < l.length ∧ l.length ≤ 400
      case neg => simp [guardP, hp] at h'
      rw [guardP_pos hp] at h'
      obtain ⟨hp1, hp2, hp3⟩ := hp
      simp only [ok] at hok
      obtain ⟨⟨hlen, _⟩, _⟩ := hok
      have hs1 := lastI_lt (startP (rd l i).node) l i.toNat
      have hs2 := lastI_ge (startP (rd l i).node) l i.toNat
      simp only [Option.some.injEq] at h'
      subst h'
      have hmo : (most : Int) = 1099511627776 := rfl
      have hml : (maxLen : Int) = 9223372036854775807 := rfl
      with_reducible refine does_by h fun Q hQ => ?_
      clear h
      dsimp only [af184, conRisen, go_sem, Nat.reduceAdd, Nat.reduceMul, Nat.reduceSub, Nat.reduceBEq, Nat.reduceLeDiff, Nat.reduceEqDiff, ↓dreduceIte, toG, semR_143, semR_214, semR_147, semR_201, semR_211, semR_209, semR_210, semR_185, semR_187, semR_188, semR_192, semR_189, semR_190, tb184_79, tb184_146, tb184_212, conFactOf, conLastOf, conLess]
      repeat' first
        | with_reducible refine kon_seq ?_
        | with_reducible refine kon_nil ?_
        | with_reducible refine kon_any ?_ ?_
        | with_reducible exact kon_any_nil
        | with_reducible refine kon_skip ?_
        | with_reducible refine kon_block ?_
        | with_reducible refine kon_ret ?_
        | with_reducible refine kon_exit ?_
        | with_reducible refine kon_past_ret ?_
        | with_reducible refine kon_past_exit ?_
        | with_reducible refine kon_blk_ret ?_
        | with_reducible refine kon_blk_end ?_
        | with_reducible refine kon_blk_exit ?_
        | (with_reducible refine kon_blk_past ?_ ?_
           · decide)
        | with_reducible refine loop_exit ?_
        | with_reducible refine loop_ret ?_
        | with_reducible refine mid_exit ?_
        | with_reducible refine mid_ret ?_
        | ((first | with_reducible refine kon_bin fun R hR => ?_ | with_reducible refine kon_conv fun R hR => ?_)
           dsimp only [go_sem, Nat.reduceAdd, Nat.reduceMul, Nat.reduceSub, Nat.reduceBEq, Nat.reduceLeDiff, Nat.reduceEqDiff, ↓dreduceIte, toG, semR_143, semR_214, semR_147, semR_201, semR_211, semR_209, semR_210, semR_185, semR_187, semR_188, semR_192, semR_189, semR_190, tb184_79, tb184_146, tb184_212, conFactOf, conLastOf, conLess]
           try simp (disch := first | omega | (simp only [List.length_set, List.length_append, List.length_cons, List.length_nil, List.length_replicate]; omega)) only [guardP_T, guardP_pos, iteN, rd_set, List.set_set, List.length_set, eta_fact, eta_rumor, eta_doubt, eta_item, eta_rec, eta_due, look, look0, rd_toNat, wrap64, Int.toNat_natCast, Nat.zero_add, List.take_length, List.drop_zero, and_self, setB_len, true_and, and_true]
           with_reducible refine hR _ ?_
           clear hR R)
        | (with_reducible refine kon_ins fun R hR => ?_
           dsimp only [go_sem, Nat.reduceAdd, Nat.reduceMul, Nat.reduceSub, Nat.reduceBEq, Nat.reduceLeDiff, Nat.reduceEqDiff, ↓dreduceIte, toG, semR_143, semR_214, semR_147, semR_201, semR_211, semR_209, semR_210, semR_185, semR_187, semR_188, semR_192, semR_189, semR_190, tb184_79, tb184_146, tb184_212, conFactOf, conLastOf, conLess]
           first
             | with_reducible refine hR _ ?_
             | (simp (disch := first | omega | (simp only [List.length_set, List.length_append, List.length_cons, List.length_nil, List.length_replicate]; omega)) only [guardP_T, guardP_pos, iteN, rd_set, List.set_set, List.length_set, eta_fact, eta_rumor, eta_doubt, eta_item, eta_rec, eta_due, look, look0, rd_toNat, wrap64, Int.toNat_natCast, Nat.zero_add, List.take_length, List.drop_zero, and_self, setB_len, true_and, and_true]
                try dsimp only [go_sem, Nat.reduceAdd, Nat.reduceMul, Nat.reduceSub, Nat.reduceBEq, Nat.reduceLeDiff, Nat.reduceEqDiff, ↓dreduceIte, toG, semR_143, semR_214, semR_147, semR_201, semR_211, semR_209, semR_210, semR_185, semR_187, semR_188, semR_192, semR_189, semR_190, tb184_79, tb184_146, tb184_212, conFactOf, conLastOf, conLess]
                try simp (disch := first | omega | (simp only [List.length_set, List.length_append, List.length_cons, List.length_nil, List.length_replicate]; omega)) only [guardP_T, guardP_pos, iteN, rd_set, List.set_set, List.length_set, eta_fact, eta_rumor, eta_doubt, eta_item, eta_rec, eta_due, look, look0, rd_toNat, wrap64, Int.toNat_natCast, Nat.zero_add, List.take_length, List.drop_zero, and_self, setB_len, true_and, and_true]
                with_reducible refine hR _ ?_)
           clear hR R)
        | (with_reducible refine kon_g_run ?_ ?_
           · dsimp only [nth] <;> with_reducible rfl)
        | (with_reducible refine kon_g_skip ?_ ?_
           · dsimp only [nth, not_t', not_f'] <;> with_reducible rfl
           dsimp only [go_sem])
        | (with_reducible refine kon_g_undef ?_ ?_
           · dsimp only [nth] <;> with_reducible rfl
           dsimp only [go_sem])
        | (with_reducible refine kon_g fun R hR => ?_
           dsimp only [go_sem, Nat.reduceAdd, Nat.reduceMul, Nat.reduceSub, Nat.reduceBEq, Nat.reduceLeDiff, Nat.reduceEqDiff, ↓dreduceIte, toG, semR_143, semR_214, semR_147, semR_201, semR_211, semR_209, semR_210, semR_185, semR_187, semR_188, semR_192, semR_189, semR_190, tb184_79, tb184_146, tb184_212, conFactOf, conLastOf, conLess]
           split <;> (rename_i hb; with_reducible refine hR _ ?_; clear hR R; try simp only [hb]; try simp only [decide_eq_true_eq, decide_eq_false_iff_not, beq_iff_eq, beq_eq_false_iff_ne, bne_iff_ne, bne_eq_false_iff_eq, Bool.not_eq_true, Bool.not_eq_false, Bool.not_eq_eq_eq_not, Bool.not_true, Bool.not_false, ne_eq, Int.not_lt, Int.not_le, eq_self, not_true_eq_false, not_false_eq_true, decide_true, decide_false, Bool.and_eq_true, Bool.or_eq_true, Bool.and_eq_false_iff, Bool.or_eq_false_iff, gt_iff_lt, ge_iff_le, Bool.false_eq_true, Bool.true_eq_false, reduceCtorEq, or_false, false_or, or_true, true_or, false_and, and_false] at hb; try (exfalso; omega)))
        | (with_reducible refine kon_cond fun R1 R2 h1 h2 => ?_
           dsimp only [go_sem]
           first
             | (with_reducible refine h1 ?_; clear h1 h2 R1 R2)
             | (with_reducible refine h2 ?_; clear h1 h2 R1 R2)
             | ((split <;> rename_i hb <;> first
                 | (with_reducible refine h1 ?_; clear h1 h2 R1 R2; try simp only [hb])
                 | (with_reducible refine h2 ?_; clear h1 h2 R1 R2; try simp only [hb])) <;> (try simp only [decide_eq_true_eq, decide_eq_false_iff_not, beq_iff_eq, beq_eq_false_iff_ne, bne_iff_ne, bne_eq_false_iff_eq, Bool.not_eq_true, Bool.not_eq_false, Bool.not_eq_eq_eq_not, Bool.not_true, Bool.not_false, ne_eq, Int.not_lt, Int.not_le, eq_self, not_true_eq_false, not_false_eq_true, decide_true, decide_false, Bool.and_eq_true, Bool.or_eq_true, Bool.and_eq_false_iff, Bool.or_eq_false_iff, gt_iff_lt, ge_iff_le, Bool.false_eq_true, Bool.true_eq_false, reduceCtorEq, or_false, false_or, or_true, true_or, false_and, and_false] at hb; try (exfalso; omega))))
        | (with_reducible refine kon_rounds (a := lp184_0) [0, 1, 5, 7, 8] (fun n9 s9 => ∃ (k : Int) (o : List Int), (((lastI (startP (rd l i).node) l i.toNat) < k) ∧ (0 ≤ k) ∧ (k ≤ i) ∧ (o.length ≤ k) ∧ (o = selI (riseP (rd l i)) l (lastI (startP (rd l i).node) l i.toNat) k.toNat)) ∧ n9 = (i - k).toNat ∧ s9.m = [.cells [.int .i64 (rd l i).at_, .int .i64 (rd l i).node, .int .i64 (rd l i).kind, .int .i64 (rd l i).a, .int .i64 (rd l i).b, .int .i64 (rd l i).c], .row 0 .int o] ∧ s9.t = [.sl .rcd l, .int .i64 i, nth s9.t 2, nth s9.t 3, nth s9.t 4, .ptr 0 0, nth s9.t 6, .ms 1 0 0 o.length, .int .i64 k, nth s9.t 9, nth s9.t 10, nth s9.t 11, nth s9.t 12, nth s9.t 13, nth s9.t 14, nth s9.t 15, nth s9.t 16, nth s9.t 17, nth s9.t 18, nth s9.t 19, nth s9.t 20, nth s9.t 21, nth s9.t 22, nth s9.t 23, nth s9.t 24, nth s9.t 25, nth s9.t 26, nth s9.t 27, nth s9.t 28, nth s9.t 29, nth s9.t 30, nth s9.t 31, nth s9.t 32, nth s9.t 33, nth s9.t 34, nth s9.t 35, nth s9.t 36, nth s9.t 37, nth s9.t 38, nth s9.t 39, nth s9.t 40, nth s9.t 41, nth s9.t 42, nth s9.t 43, nth s9.t 44, nth s9.t 45, nth s9.t 46, nth s9.t 47, nth s9.t 48, nth s9.t 49, nth s9.t 50, nth s9.t 51, nth s9.t 52, nth s9.t 53, nth s9.t 54, nth s9.t 55, nth s9.t 56, nth s9.t 57, nth s9.t 58, nth s9.t 59]) ?_ ?_
           all_goals first
             | (rintro n9 ⟨t9, m9⟩ ⟨k, o, ⟨hI0, hI1, hI2, hI3, hI4⟩, rfl, hm9, ht9⟩
                dsimp only at hm9 ht9
                subst hm9
                rw [ht9]
                clear ht9
                dsimp only [lp184_0])
             | (dsimp only [go_sem, Nat.reduceAdd, Nat.reduceMul, Nat.reduceSub, Nat.reduceBEq, Nat.reduceLeDiff, Nat.reduceEqDiff, ↓dreduceIte, toG, semR_143, semR_214, semR_147, semR_201, semR_211, semR_209, semR_210, semR_185, semR_187, semR_188, semR_192, semR_189, semR_190, tb184_79, tb184_146, tb184_212, conFactOf, conLastOf, conLess]
                refine ⟨_, _, _, ⟨?_, ?_, ?_, ?_, ?_⟩, rfl, rfl, rfl⟩))
        | (with_reducible refine loop_again (keep := [0, 1, 5, 7, 8]) ?_
           dsimp only [go_sem, Nat.reduceAdd, Nat.reduceMul, Nat.reduceSub, Nat.reduceBEq, Nat.reduceLeDiff, Nat.reduceEqDiff, ↓dreduceIte, toG, semR_143, semR_214, semR_147, semR_201, semR_211, semR_209, semR_210, semR_185, semR_187, semR_188, semR_192, semR_189, semR_190, tb184_79, tb184_146, tb184_212, conFactOf, conLastOf, conLess]
           refine ⟨_, ?_, _, _, ⟨?_, ?_, ?_, ?_, ?_⟩, rfl, rfl, rfl⟩)
      all_goals first
        | (dsimp only [kon]
           with_reducible refine hQ _ _ _ ?_
           dsimp only [kon, endQ, af184, conRisen, go_sem, Nat.reduceAdd, Nat.reduceMul, Nat.reduceSub, Nat.reduceBEq, Nat.reduceLeDiff, Nat.reduceEqDiff, ↓dreduceIte, toG, semR_143, semR_214, semR_147, semR_201, semR_211, semR_209, semR_210, semR_185, semR_187, semR_188, semR_192, semR_189, semR_190, tb184_79, tb184_146, tb184_212, conFactOf, conLastOf, conLess]
           try simp (disch := first | omega | (simp only [List.length_set, List.length_append, List.length_cons, List.length_nil, List.length_replicate]; omega)) only [guardP_T, guardP_pos, iteN, rd_set, List.set_set, List.length_set, eta_fact, eta_rumor, eta_doubt, eta_item, eta_rec, eta_due, look, look0, rd_toNat, wrap64, Int.toNat_natCast, Nat.zero_add, List.take_length, List.drop_zero, and_self, setB_len, true_and, and_true]
           try dsimp only [go_sem, Nat.reduceAdd, Nat.reduceMul, Nat.reduceSub, Nat.reduceBEq, Nat.reduceLeDiff, Nat.reduceEqDiff, ↓dreduceIte, toG, semR_143, semR_214, semR_147, semR_201, semR_211, semR_209, semR_210, semR_185, semR_187, semR_188, semR_192, semR_189, semR_190, tb184_79, tb184_146, tb184_212, conFactOf, conLastOf, conLess])
        | skip
      all_goals try first
        | omega
        | (simp; done)
        | (simp; omega)
      all_goals first
        | omega
        | exact (selI_low _ (by omega)).symm
        | (rw [selI_step (by omega), ← hI4, if_pos ⟨hI0, by simp_all [riseP]⟩]; done)
        | (rw [selI_step (by omega), ← hI4, if_neg (fun h => by
             have h9 := h.2
             simp_all [riseP]
             done), List.append_nil]
           done)
        | (rw [hI4, show k = i by omega]; done)
    · simp at h'

def conShownLast : Con := ⟨[.v], .v, fun as => match as with
  | [.bool b] => some (.bool b, [])
  | _ => none⟩

def tb131 : Tab := fun f => match f with
  | 148 => some conIsSentFor
  | 180 => some conLives
  | 181 => some conHasAhead
  | 182 => some conNoLess
  | 183 => some conSame
  | 184 => some conRisen
  | _ => none

theorem tb131_148 : tb131 148 = some conIsSentFor := rfl
theorem tb131_180 : tb131 180 = some conLives := rfl
theorem tb131_181 : tb131 181 = some conHasAhead := rfl
theorem tb131_182 : tb131 182 = some conNoLess := rfl
theorem tb131_183 : tb131 183 = some conSame := rfl
theorem tb131_184 : tb131 184 = some conRisen := rfl

-- loop.example/g00678/impl.breaks hows [(5, [.any, .any, .any, .any, .any, .any, .any, .any, .any, .any, .boxed, .any, .any, .any], [])]
def af131 : AF := ⟨156, [.t 6],
  .seq (.reg [⟨some 6, .mv (.b false), none⟩])
  (.seq (.reg [⟨some 9, .mv (.t 0), none⟩,
    ⟨some 10, .mv (.t 1), none⟩,
    ⟨some 11, .ia .rcd (.t 9) (.t 10), none⟩,
    ⟨some 12, .ld true 6 (.t 11), none⟩,
    ⟨some 7, .box (.c (.agg [.int .i64 0, .int .i64 0, .int .i64 0, .int .i64 0, .int .i64 0, .int .i64 0])), none⟩,
    ⟨none, .st 6 (.t 7) (.t 12), none⟩])
  (.seq (.reg [⟨some 13, .fa 2 (.t 7), none⟩,
    ⟨some 14, .ld false 1 (.t 13), none⟩,
    ⟨some 15, .bin .eql (.t 14) (.i 5), none⟩,
    ⟨some 16, .mv (.t 15), none⟩,
    ⟨some 17, .fa 3 (.t 7), some (16, true)⟩,
    ⟨some 18, .ld false 1 (.t 17), some (16, true)⟩,
    ⟨some 19, .fa 1 (.t 7), some (16, true)⟩,
    ⟨some 20, .ld false 1 (.t 19), some (16, true)⟩,
    ⟨some 21, .bin .neq (.t 18) (.t 20), some (16, true)⟩,
    ⟨some 22, .pick (.t 16) (.t 21) (.b false), none⟩,
    ⟨some 8, .mv (.t 22), none⟩])
  (.seq (.seq (.reg [⟨some 23, .mv (.t 2), none⟩])
  (.block 0 (.seq (.reg [⟨some 25, .bin .eql (.t 23) (.i 1), none⟩,
      ⟨some 24, .mv (.t 25), none⟩])
    (.cond (.t 24)
      (.seq (.reg [⟨some 26, .mv (.t 1), none⟩,
        ⟨some 27, .bin .gtr (.t 26) (.i 0), none⟩,
        ⟨some 28, .mv (.t 27), none⟩,
        ⟨some 29, .mv (.t 0), some (28, true)⟩,
        ⟨some 30, .mv (.t 1), some (28, true)⟩,
        ⟨some 31, .bin .sub (.t 30) (.i 1), some (28, true)⟩,
        ⟨some 32, .ia .rcd (.t 29) (.t 31), some (28, true)⟩,
        ⟨some 33, .fa 0 (.t 32), some (28, true)⟩,
        ⟨some 34, .ld false 1 (.t 33), some (28, true)⟩,
        ⟨some 35, .fa 0 (.t 7), some (28, true)⟩,
        ⟨some 36, .ldb false 1 (.t 35), some (28, true)⟩,
        ⟨some 37, .bin .gtr (.t 34) (.t 36), some (28, true)⟩,
        ⟨some 38, .pick (.t 28) (.t 37) (.b false), none⟩,
        ⟨some 6, .mv (.t 38), none⟩])
      (.ret))
      (.seq (.reg [⟨some 40, .bin .eql (.t 23) (.i 2), none⟩,
        ⟨some 39, .mv (.t 40), none⟩])
      (.cond (.t 39)
        (.seq (.reg [⟨some 41, .fa 2 (.t 7), none⟩,
          ⟨some 42, .ld false 1 (.t 41), none⟩,
          ⟨some 43, .bin .neq (.t 42) (.i 1), none⟩,
          ⟨some 44, .mv (.t 43), none⟩,
          ⟨some 45, .mv (.t 0), some (44, true)⟩,
          ⟨some 46, .mv (.t 1), some (44, true)⟩,
          ⟨some 47, .fa 1 (.t 7), some (44, true)⟩,
          ⟨some 48, .ld false 1 (.t 47), some (44, true)⟩,
          ⟨some 49, .call 180 [(.t 45), (.t 46), (.t 48)], some (44, true)⟩,
          ⟨some 50, .un .not (.t 49), some (44, true)⟩,
          ⟨some 51, .pick (.t 44) (.t 50) (.b false), none⟩,
          ⟨some 6, .mv (.t 51), none⟩])
        (.ret))
        (.seq (.reg [⟨some 53, .bin .eql (.t 23) (.i 3), none⟩,
          ⟨some 52, .mv (.t 53), none⟩])
        (.cond (.t 52)
          (.seq (.reg [⟨some 54, .fa 2 (.t 7), none⟩,
            ⟨some 55, .ld false 1 (.t 54), none⟩,
            ⟨some 56, .bin .eql (.t 55) (.i 1), none⟩,
            ⟨some 57, .mv (.t 56), none⟩,
            ⟨some 58, .mv (.t 0), some (57, true)⟩,
            ⟨some 59, .mv (.t 1), some (57, true)⟩,
            ⟨some 60, .fa 1 (.t 7), some (57, true)⟩,
            ⟨some 61, .ld false 1 (.t 60), some (57, true)⟩,
            ⟨some 62, .call 180 [(.t 58), (.t 59), (.t 61)], some (57, true)⟩,
            ⟨some 63, .mv (.t 62), some (57, true)⟩,
            ⟨some 64, .mv (.t 0), some (63, false)⟩,
            ⟨some 65, .mv (.t 1), some (63, false)⟩,
            ⟨some 66, .fa 1 (.t 7), some (63, false)⟩,
            ⟨some 67, .ld false 1 (.t 66), some (63, false)⟩,
            ⟨some 68, .fa 3 (.t 7), some (63, false)⟩,
            ⟨some 69, .ld false 1 (.t 68), some (63, false)⟩,
            ⟨some 70, .call 182 [(.t 67), (.t 69)], some (63, false)⟩,
            ⟨some 71, .call 181 [(.t 64), (.t 65), (.t 70)], some (63, false)⟩,
            ⟨some 72, .pick (.t 63) (.b true) (.t 71), some (57, true)⟩,
            ⟨some 73, .pick (.t 57) (.t 72) (.b false), none⟩,
            ⟨some 6, .mv (.t 73), none⟩])
          (.ret))
          (.seq (.reg [⟨some 75, .bin .eql (.t 23) (.i 4), none⟩,
            ⟨some 74, .mv (.t 75), none⟩])
          (.cond (.t 74)
            (.seq (.reg [⟨some 76, .fa 2 (.t 7), none⟩,
              ⟨some 77, .ld false 1 (.t 76), none⟩,
              ⟨some 78, .bin .eql (.t 77) (.i 3), none⟩,
              ⟨some 79, .mv (.t 78), none⟩,
              ⟨some 80, .fa 2 (.t 7), some (79, false)⟩,
              ⟨some 81, .ld false 1 (.t 80), some (79, false)⟩,
              ⟨some 82, .bin .eql (.t 81) (.i 4), some (79, false)⟩,
              ⟨some 83, .pick (.t 79) (.b true) (.t 82), none⟩,
              ⟨some 84, .mv (.t 83), none⟩,
              ⟨some 85, .mv (.t 0), some (84, true)⟩,
              ⟨some 86, .mv (.t 1), some (84, true)⟩,
              ⟨some 87, .ld true 6 (.t 7), some (84, true)⟩,
              ⟨some 88, .call 183 [(.t 87)], some (84, true)⟩,
              ⟨some 89, .call 181 [(.t 85), (.t 86), (.t 88)], some (84, true)⟩,
              ⟨some 90, .pick (.t 84) (.t 89) (.b false), none⟩,
              ⟨some 6, .mv (.t 90), none⟩])
            (.ret))
            (.seq (.reg [⟨some 92, .bin .eql (.t 23) (.i 5), none⟩,
              ⟨some 91, .mv (.t 92), none⟩])
            (.cond (.t 91)
              (.seq (.reg [⟨some 93, .fa 2 (.t 7), none⟩,
                ⟨some 94, .ld false 1 (.t 93), none⟩,
                ⟨some 95, .bin .eql (.t 94) (.i 4), none⟩,
                ⟨some 96, .mv (.t 95), none⟩,
                ⟨some 97, .mv (.t 0), some (96, true)⟩,
                ⟨some 98, .mv (.t 1), some (96, true)⟩,
                ⟨some 99, .ld true 6 (.t 7), some (96, true)⟩,
                ⟨some 100, .call 148 [(.t 99)], some (96, true)⟩,
                ⟨some 101, .call 181 [(.t 97), (.t 98), (.t 100)], some (96, true)⟩,
                ⟨some 102, .un .not (.t 101), some (96, true)⟩,
                ⟨some 103, .pick (.t 96) (.t 102) (.b false), none⟩,
                ⟨some 6, .mv (.t 103), none⟩])
              (.ret))
              (.seq (.reg [⟨some 105, .bin .eql (.t 23) (.i 6), none⟩,
                ⟨some 104, .mv (.t 105), none⟩])
              (.cond (.t 104)
                (.seq (.reg [⟨some 106, .fa 2 (.t 7), none⟩,
                  ⟨some 107, .ld false 1 (.t 106), none⟩,
                  ⟨some 108, .bin .eql (.t 107) (.i 5), none⟩,
                  ⟨some 109, .mv (.t 108), none⟩,
                  ⟨some 110, .mv (.t 0), some (109, true)⟩,
                  ⟨some 111, .mv (.t 1), some (109, true)⟩,
                  ⟨some 112, .call 184 [(.t 110), (.t 111)], some (109, true)⟩,
                  ⟨some 113, .len (.t 112), some (109, true)⟩,
                  ⟨some 114, .bin .gtr (.t 113) (.i 0), some (109, true)⟩,
                  ⟨some 115, .pick (.t 109) (.t 114) (.b false), none⟩,
                  ⟨some 6, .mv (.t 115), none⟩])
                (.ret))
                (.seq (.reg [⟨some 117, .bin .eql (.t 23) (.i 7), none⟩,
                  ⟨some 116, .mv (.t 117), none⟩])
                (.cond (.t 116)
                  (.seq (.reg [⟨some 118, .mv (.t 8), none⟩,
                    ⟨some 119, .mv (.t 118), none⟩,
                    ⟨some 120, .mv (.t 0), some (119, true)⟩,
                    ⟨some 121, .mv (.t 1), some (119, true)⟩,
                    ⟨some 122, .mf 185 [(.t 7)], some (119, true)⟩,
                    ⟨some 123, .call 181 [(.t 120), (.t 121), (.t 122)], some (119, true)⟩,
                    ⟨some 124, .un .not (.t 123), some (119, true)⟩,
                    ⟨some 125, .pick (.t 119) (.t 124) (.b false), none⟩,
                    ⟨some 6, .mv (.t 125), none⟩])
                  (.ret))
                  (.seq (.reg [⟨some 127, .bin .eql (.t 23) (.i 8), none⟩,
                    ⟨some 126, .mv (.t 127), none⟩])
                  (.cond (.t 126)
                    (.seq (.reg [⟨some 128, .mv (.t 8), none⟩,
                      ⟨some 129, .mv (.t 128), none⟩,
                      ⟨some 130, .fa 5 (.t 7), some (129, true)⟩,
                      ⟨some 131, .ld false 1 (.t 130), some (129, true)⟩,
                      ⟨some 132, .bin .eql (.t 131) (.i 2), some (129, true)⟩,
                      ⟨some 133, .pick (.t 129) (.t 132) (.b false), none⟩,
                      ⟨some 134, .mv (.t 133), none⟩,
                      ⟨some 135, .mv (.t 0), some (134, true)⟩,
                      ⟨some 136, .mv (.t 1), some (134, true)⟩,
                      ⟨some 137, .mf 187 [(.t 7)], some (134, true)⟩,
                      ⟨some 138, .call 181 [(.t 135), (.t 136), (.t 137)], some (134, true)⟩,
                      ⟨some 139, .un .not (.t 138), some (134, true)⟩,
                      ⟨some 140, .pick (.t 134) (.t 139) (.b false), none⟩,
                      ⟨some 6, .mv (.t 140), none⟩])
                    (.ret))
                    (.seq (.reg [⟨some 142, .bin .eql (.t 23) (.i 9), none⟩,
                      ⟨some 141, .mv (.t 142), none⟩])
                    (.cond (.t 141)
                      (.seq (.reg [⟨some 143, .mv (.t 8), none⟩,
                        ⟨some 144, .mv (.t 143), none⟩,
                        ⟨some 145, .fa 5 (.t 7), some (144, true)⟩,
                        ⟨some 146, .ld false 1 (.t 145), some (144, true)⟩,
                        ⟨some 147, .bin .eql (.t 146) (.i 3), some (144, true)⟩,
                        ⟨some 148, .pick (.t 144) (.t 147) (.b false), none⟩,
                        ⟨some 149, .mv (.t 148), none⟩,
                        ⟨some 150, .mv (.t 0), some (149, true)⟩,
                        ⟨some 151, .mv (.t 1), some (149, true)⟩,
                        ⟨some 152, .mf 188 [(.t 7)], some (149, true)⟩,
                        ⟨some 153, .call 181 [(.t 150), (.t 151), (.t 152)], some (149, true)⟩,
                        ⟨some 154, .un .not (.t 153), some (149, true)⟩,
                        ⟨some 155, .pick (.t 149) (.t 154) (.b false), none⟩,
                        ⟨some 6, .mv (.t 155), none⟩])
                      (.ret))
                      (.skip)))))))))))))))))))))
  (.seq (.reg [⟨some 6, .mv (.b false), none⟩])
  (.ret)))))⟩

set_option maxHeartbeats 4000000 in
theorem does131 (as : List AV) (hok : ok 64 as) : Does tb131 af131 conBreaksI as := by
  cases h : (conBreaksI).run as with
  | none => exact does_none h
  | some out =>
    have h' := h
    simp only [conBreaksI] at h'
    split at h'
    · rename_i l i c
      by_cases hp : 0 ≤ i ∧ i < l.length ∧ l.length ≤ 400
      case neg => simp [guardP, hp] at h'
      rw [guardP_pos hp] at h'
      obtain ⟨hp1, hp2, hp3⟩ := hp
      simp only [ok] at hok
      obtain ⟨⟨hlen, _⟩, _⟩ := hok
      have hln := selI_length (riseP (rd l i)) l (lastI (startP (rd l i).node) l i.toNat) i.toNat
      simp only [Option.some.injEq] at h'
      subst h'
      have hmo : (most : Int) = 1099511627776 := rfl
      have hml : (maxLen : Int) = 9223372036854775807 := rfl
      with_reducible refine does_by h fun Q hQ => ?_
      clear h
      dsimp only [af131, conBreaksI, go_sem, Nat.reduceAdd, Nat.reduceMul, Nat.reduceSub, Nat.reduceBEq, Nat.reduceLeDiff, Nat.reduceEqDiff, ↓dreduceIte, toG, semR_143, semR_214, semR_147, semR_201, semR_211, semR_209, semR_210, semR_185, semR_187, semR_188, semR_192, semR_189, semR_190, tb131_148, tb131_180, tb131_181, tb131_182, tb131_183, tb131_184, conHasAhead, conIsSentFor, conLives, conNoLess, conRisen, conSame]
      repeat' first
        | with_reducible refine kon_seq ?_
        | with_reducible refine kon_nil ?_
        | with_reducible refine kon_any ?_ ?_
        | with_reducible exact kon_any_nil
        | with_reducible refine kon_skip ?_
        | with_reducible refine kon_block ?_
        | with_reducible refine kon_ret ?_
        | with_reducible refine kon_exit ?_
        | with_reducible refine kon_past_ret ?_
        | with_reducible refine kon_past_exit ?_
        | with_reducible refine kon_blk_ret ?_
        | with_reducible refine kon_blk_end ?_
        | with_reducible refine kon_blk_exit ?_
        | (with_reducible refine kon_blk_past ?_ ?_
           · decide)
        | with_reducible refine loop_exit ?_
        | with_reducible refine loop_ret ?_
        | with_reducible refine mid_exit ?_
        | with_reducible refine mid_ret ?_
        | ((first | with_reducible refine kon_bin fun R hR => ?_ | with_reducible refine kon_conv fun R hR => ?_)
           dsimp only [go_sem, Nat.reduceAdd, Nat.reduceMul, Nat.reduceSub, Nat.reduceBEq, Nat.reduceLeDiff, Nat.reduceEqDiff, ↓dreduceIte, toG, semR_143, semR_214, semR_147, semR_201, semR_211, semR_209, semR_210, semR_185, semR_187, semR_188, semR_192, semR_189, semR_190, tb131_148, tb131_180, tb131_181, tb131_182, tb131_183, tb131_184, conHasAhead, conIsSentFor, conLives, conNoLess, conRisen, conSame]
           try simp (disch := first | omega | (simp only [List.length_set, List.length_append, List.length_cons, List.length_nil, List.length_replicate]; omega)) only [guardP_T, guardP_pos, iteN, rd_set, List.set_set, List.length_set, eta_fact, eta_rumor, eta_doubt, eta_item, eta_rec, eta_due, look, look0, rd_toNat, wrap64, Int.toNat_natCast, Nat.zero_add, List.take_length, List.drop_zero, and_self, setB_len, true_and, and_true]
           with_reducible refine hR _ ?_
           clear hR R)
        | (with_reducible refine kon_ins fun R hR => ?_
           dsimp only [go_sem, Nat.reduceAdd, Nat.reduceMul, Nat.reduceSub, Nat.reduceBEq, Nat.reduceLeDiff, Nat.reduceEqDiff, ↓dreduceIte, toG, semR_143, semR_214, semR_147, semR_201, semR_211, semR_209, semR_210, semR_185, semR_187, semR_188, semR_192, semR_189, semR_190, tb131_148, tb131_180, tb131_181, tb131_182, tb131_183, tb131_184, conHasAhead, conIsSentFor, conLives, conNoLess, conRisen, conSame]
           first
             | with_reducible refine hR _ ?_
             | (simp (disch := first | omega | (simp only [List.length_set, List.length_append, List.length_cons, List.length_nil, List.length_replicate]; omega)) only [guardP_T, guardP_pos, iteN, rd_set, List.set_set, List.length_set, eta_fact, eta_rumor, eta_doubt, eta_item, eta_rec, eta_due, look, look0, rd_toNat, wrap64, Int.toNat_natCast, Nat.zero_add, List.take_length, List.drop_zero, and_self, setB_len, true_and, and_true]
                try dsimp only [go_sem, Nat.reduceAdd, Nat.reduceMul, Nat.reduceSub, Nat.reduceBEq, Nat.reduceLeDiff, Nat.reduceEqDiff, ↓dreduceIte, toG, semR_143, semR_214, semR_147, semR_201, semR_211, semR_209, semR_210, semR_185, semR_187, semR_188, semR_192, semR_189, semR_190, tb131_148, tb131_180, tb131_181, tb131_182, tb131_183, tb131_184, conHasAhead, conIsSentFor, conLives, conNoLess, conRisen, conSame]
                try simp (disch := first | omega | (simp only [List.length_set, List.length_append, List.length_cons, List.length_nil, List.length_replicate]; omega)) only [guardP_T, guardP_pos, iteN, rd_set, List.set_set, List.length_set, eta_fact, eta_rumor, eta_doubt, eta_item, eta_rec, eta_due, look, look0, rd_toNat, wrap64, Int.toNat_natCast, Nat.zero_add, List.take_length, List.drop_zero, and_self, setB_len, true_and, and_true]
                with_reducible refine hR _ ?_)
           clear hR R)
        | (with_reducible refine kon_g_run ?_ ?_
           · dsimp only [nth] <;> with_reducible rfl)
        | (with_reducible refine kon_g_skip ?_ ?_
           · dsimp only [nth, not_t', not_f'] <;> with_reducible rfl
           dsimp only [go_sem])
        | (with_reducible refine kon_g_undef ?_ ?_
           · dsimp only [nth] <;> with_reducible rfl
           dsimp only [go_sem])
        | (with_reducible refine kon_g fun R hR => ?_
           dsimp only [go_sem, Nat.reduceAdd, Nat.reduceMul, Nat.reduceSub, Nat.reduceBEq, Nat.reduceLeDiff, Nat.reduceEqDiff, ↓dreduceIte, toG, semR_143, semR_214, semR_147, semR_201, semR_211, semR_209, semR_210, semR_185, semR_187, semR_188, semR_192, semR_189, semR_190, tb131_148, tb131_180, tb131_181, tb131_182, tb131_183, tb131_184, conHasAhead, conIsSentFor, conLives, conNoLess, conRisen, conSame]
           split <;> (rename_i hb; with_reducible refine hR _ ?_; clear hR R; try simp only [hb]; try simp only [decide_eq_true_eq, decide_eq_false_iff_not, beq_iff_eq, beq_eq_false_iff_ne, bne_iff_ne, bne_eq_false_iff_eq, Bool.not_eq_true, Bool.not_eq_false, Bool.not_eq_eq_eq_not, Bool.not_true, Bool.not_false, ne_eq, Int.not_lt, Int.not_le, eq_self, not_true_eq_false, not_false_eq_true, decide_true, decide_false, Bool.and_eq_true, Bool.or_eq_true, Bool.and_eq_false_iff, Bool.or_eq_false_iff, gt_iff_lt, ge_iff_le, Bool.false_eq_true, Bool.true_eq_false, reduceCtorEq, or_false, false_or, or_true, true_or, false_and, and_false] at hb; try (exfalso; omega)))
        | (with_reducible refine kon_cond fun R1 R2 h1 h2 => ?_
           dsimp only [go_sem]
           first
             | (with_reducible refine h1 ?_; clear h1 h2 R1 R2)
             | (with_reducible refine h2 ?_; clear h1 h2 R1 R2)
             | ((split <;> rename_i hb <;> first
                 | (with_reducible refine h1 ?_; clear h1 h2 R1 R2; try simp only [hb])
                 | (with_reducible refine h2 ?_; clear h1 h2 R1 R2; try simp only [hb])) <;> (try simp only [decide_eq_true_eq, decide_eq_false_iff_not, beq_iff_eq, beq_eq_false_iff_ne, bne_iff_ne, bne_eq_false_iff_eq, Bool.not_eq_true, Bool.not_eq_false, Bool.not_eq_eq_eq_not, Bool.not_true, Bool.not_false, ne_eq, Int.not_lt, Int.not_le, eq_self, not_true_eq_false, not_false_eq_true, decide_true, decide_false, Bool.and_eq_true, Bool.or_eq_true, Bool.and_eq_false_iff, Bool.or_eq_false_iff, gt_iff_lt, ge_iff_le, Bool.false_eq_true, Bool.true_eq_false, reduceCtorEq, or_false, false_or, or_true, true_or, false_and, and_false] at hb; try (exfalso; omega))))
      all_goals first
        | (dsimp only [kon]
           with_reducible refine hQ _ _ _ ?_
           dsimp only [kon, endQ, af131, conBreaksI, go_sem, Nat.reduceAdd, Nat.reduceMul, Nat.reduceSub, Nat.reduceBEq, Nat.reduceLeDiff, Nat.reduceEqDiff, ↓dreduceIte, toG, semR_143, semR_214, semR_147, semR_201, semR_211, semR_209, semR_210, semR_185, semR_187, semR_188, semR_192, semR_189, semR_190, tb131_148, tb131_180, tb131_181, tb131_182, tb131_183, tb131_184, conHasAhead, conIsSentFor, conLives, conNoLess, conRisen, conSame]
           try simp (disch := first | omega | (simp only [List.length_set, List.length_append, List.length_cons, List.length_nil, List.length_replicate]; omega)) only [guardP_T, guardP_pos, iteN, rd_set, List.set_set, List.length_set, eta_fact, eta_rumor, eta_doubt, eta_item, eta_rec, eta_due, look, look0, rd_toNat, wrap64, Int.toNat_natCast, Nat.zero_add, List.take_length, List.drop_zero, and_self, setB_len, true_and, and_true]
           try dsimp only [go_sem, Nat.reduceAdd, Nat.reduceMul, Nat.reduceSub, Nat.reduceBEq, Nat.reduceLeDiff, Nat.reduceEqDiff, ↓dreduceIte, toG, semR_143, semR_214, semR_147, semR_201, semR_211, semR_209, semR_210, semR_185, semR_187, semR_188, semR_192, semR_189, semR_190, tb131_148, tb131_180, tb131_181, tb131_182, tb131_183, tb131_184, conHasAhead, conIsSentFor, conLives, conNoLess, conRisen, conSame])
        | skip
      all_goals try first
        | omega
        | (simp; done)
        | (simp; omega)
      all_goals first
        | (simp_all [breaksI]; done)
        | (subst_vars
           simp only [breaksI, if_true, decide_eq_false (show ¬(0 < i) by omega), Bool.false_and])
    · simp at h'

end Go.Proofs.Ytnghlmogcbmlfaa
