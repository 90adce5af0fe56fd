/- Plans: the law. -/
import Derived.Test.YtbiefokigponpaaPlanA
namespace Go.Proofs.Ytbiefokigponpaa
set_option linter.unusedVariables false
set_option linter.unusedSimpArgs false
set_option linter.unnecessarySimpa false

def conLawPlan : Con := ⟨[.imm .item], .v, fun as => match as with
  | [.sl .item _] => some (.bool true, [])
  | _ => none⟩

def tb7 : Tab := fun f => match f with
  | 22 => some conSzItemS
  | 23 => some conPlanOk
  | 24 => some conToItemS
  | 25 => some conPlanOk
  | 26 => some conEqItemS
  | _ => none

theorem tb7_22 : tb7 22 = some conSzItemS := rfl
theorem tb7_23 : tb7 23 = some conPlanOk := rfl
theorem tb7_24 : tb7 24 = some conToItemS := rfl
theorem tb7_25 : tb7 25 = some conPlanOk := rfl
theorem tb7_26 : tb7 26 = some conEqItemS := rfl

-- loop.example/g00678/laws.FnExactPlanRight hows []
def af7 : AF := ⟨27, [.t 2],
  .seq (.reg [⟨some 2, .mv (.b false), none⟩])
  (.seq (.reg [⟨some 3, .mv (.i 1048576), none⟩])
  (.seq (.reg [⟨some 7, .mv (.t 0), none⟩,
    ⟨some 8, .mv (.t 3), none⟩,
    ⟨some 9, .call 22 [(.t 7), (.t 8)], none⟩,
    ⟨some 3, .mv (.t 9), none⟩])
  (.seq (.seq (.reg [⟨some 10, .mv (.t 3), none⟩,
    ⟨some 11, .bin .lss (.t 10) (.i 0), none⟩])
  (.cond (.t 11)
    (.seq (.reg [⟨some 2, .mv (.b true), none⟩])
    (.ret))
    (.skip)))
  (.seq (.reg [⟨some 12, .mv (.t 0), none⟩,
    ⟨some 13, .call 24 [(.t 12)], none⟩,
    ⟨some 14, .call 23 [(.t 13)], none⟩,
    ⟨some 4, .mv (.t 14), none⟩])
  (.seq (.reg [⟨some 15, .mv (.t 0), none⟩,
    ⟨some 16, .call 24 [(.t 15)], none⟩,
    ⟨some 5, .mv (.t 16), none⟩])
  (.seq (.reg [⟨some 17, .mv (.t 5), none⟩,
    ⟨some 18, .call 25 [(.t 17)], none⟩,
    ⟨some 6, .mv (.t 18), none⟩])
  (.seq (.seq (.reg [⟨some 19, .mv (.t 6), none⟩,
    ⟨some 20, .mv (.t 4), none⟩,
    ⟨some 21, .eqb true (.t 19) (.t 20), none⟩])
  (.cond (.t 21)
    (.seq (.reg [⟨some 2, .mv (.b false), none⟩])
    (.ret))
    (.skip)))
  (.seq (.seq (.reg [⟨some 22, .mv (.t 5), none⟩,
    ⟨some 23, .mv (.t 0), none⟩,
    ⟨some 24, .call 24 [(.t 23)], none⟩,
    ⟨some 25, .call 26 [(.t 22), (.t 24)], none⟩,
    ⟨some 26, .un .not (.t 25), none⟩])
  (.cond (.t 26)
    (.seq (.reg [⟨some 2, .mv (.b false), none⟩])
    (.ret))
    (.skip)))
  (.seq (.reg [⟨some 2, .mv (.b true), none⟩])
  (.ret))))))))))⟩

set_option maxHeartbeats 4000000 in
theorem does7 (as : List AV) (hok : ok 64 as) : Does tb7 af7 conLawPlan as := by
  cases h : (conLawPlan).run as with
  | none => exact does_none h
  | some out =>
    have h' := h
    simp only [conLawPlan] at h'
    split at h'
    · rename_i l
      simp only [Option.some.injEq] at h'
      subst h'
      have hmo : (most : Int) = 1099511627776 := rfl
      have hml : (maxLen : Int) = 9223372036854775807 := rfl
      with_reducible refine does_by h fun Q hQ => ?_
      clear h
      dsimp only [af7, conLawPlan, go_sem, Nat.reduceAdd, Nat.reduceMul, Nat.reduceSub, Nat.reduceBEq, Nat.reduceLeDiff, Nat.reduceEqDiff, ↓dreduceIte, toG, tb7_22, tb7_23, tb7_24, tb7_25, tb7_26, conEqItemS, conPlanOk, conSzItemS, conToItemS]
      repeat' first
        | with_reducible refine kon_seq ?_
        | with_reducible refine kon_nil ?_
        | with_reducible refine kon_skip ?_
        | with_reducible refine kon_block ?_
        | with_reducible refine kon_ret ?_
        | with_reducible refine kon_exit ?_
        | with_reducible refine kon_past_ret ?_
        | with_reducible refine kon_past_exit ?_
        | with_reducible refine kon_blk_ret ?_
        | with_reducible refine kon_blk_end ?_
        | with_reducible refine kon_blk_exit ?_
        | with_reducible refine loop_exit ?_
        | with_reducible refine loop_ret ?_
        | with_reducible refine mid_exit ?_
        | with_reducible refine mid_ret ?_
        | (with_reducible refine kon_bin fun R hR => ?_
           dsimp only [go_sem, Nat.reduceAdd, Nat.reduceMul, Nat.reduceSub, Nat.reduceBEq, Nat.reduceLeDiff, Nat.reduceEqDiff, ↓dreduceIte, toG, tb7_22, tb7_23, tb7_24, tb7_25, tb7_26, conEqItemS, conPlanOk, conSzItemS, conToItemS]
           try simp (disch := omega) only [guardP_T, guardP_pos, iteN, rd_set, List.set_set, List.length_set, eta_fact, eta_rumor, eta_doubt, eta_item, eta_rec, eta_due, look, look0, rd_toNat, wrap64, Int.toNat_natCast, Nat.zero_add, List.take_length, List.drop_zero, and_self, setB_len, true_and, and_true, szN_lt, szN_ge]
           with_reducible refine hR _ ?_
           clear hR R)
        | (with_reducible refine kon_conv fun R hR => ?_
           dsimp only [go_sem, Nat.reduceAdd, Nat.reduceMul, Nat.reduceSub, Nat.reduceBEq, Nat.reduceLeDiff, Nat.reduceEqDiff, ↓dreduceIte, toG, tb7_22, tb7_23, tb7_24, tb7_25, tb7_26, conEqItemS, conPlanOk, conSzItemS, conToItemS]
           try simp (disch := omega) only [guardP_T, guardP_pos, iteN, rd_set, List.set_set, List.length_set, eta_fact, eta_rumor, eta_doubt, eta_item, eta_rec, eta_due, look, look0, rd_toNat, wrap64, Int.toNat_natCast, Nat.zero_add, List.take_length, List.drop_zero, and_self, setB_len, true_and, and_true, szN_lt, szN_ge]
           with_reducible refine hR _ ?_
           clear hR R)
        | (with_reducible refine kon_ins fun R hR => ?_
           dsimp only [go_sem, Nat.reduceAdd, Nat.reduceMul, Nat.reduceSub, Nat.reduceBEq, Nat.reduceLeDiff, Nat.reduceEqDiff, ↓dreduceIte, toG, tb7_22, tb7_23, tb7_24, tb7_25, tb7_26, conEqItemS, conPlanOk, conSzItemS, conToItemS]
           first
             | with_reducible refine hR _ ?_
             | (simp (disch := omega) only [guardP_T, guardP_pos, iteN, rd_set, List.set_set, List.length_set, eta_fact, eta_rumor, eta_doubt, eta_item, eta_rec, eta_due, look, look0, rd_toNat, wrap64, Int.toNat_natCast, Nat.zero_add, List.take_length, List.drop_zero, and_self, setB_len, true_and, and_true, szN_lt, szN_ge]
                try dsimp only [go_sem, Nat.reduceAdd, Nat.reduceMul, Nat.reduceSub, Nat.reduceBEq, Nat.reduceLeDiff, Nat.reduceEqDiff, ↓dreduceIte, toG, tb7_22, tb7_23, tb7_24, tb7_25, tb7_26, conEqItemS, conPlanOk, conSzItemS, conToItemS]
                try simp (disch := omega) only [guardP_T, guardP_pos, iteN, rd_set, List.set_set, List.length_set, eta_fact, eta_rumor, eta_doubt, eta_item, eta_rec, eta_due, look, look0, rd_toNat, wrap64, Int.toNat_natCast, Nat.zero_add, List.take_length, List.drop_zero, and_self, setB_len, true_and, and_true, szN_lt, szN_ge]
                with_reducible refine hR _ ?_)
           clear hR R)
        | (with_reducible refine kon_g_run ?_ ?_
           · dsimp only [nth] <;> with_reducible rfl)
        | (with_reducible refine kon_g_skip ?_ ?_
           · dsimp only [nth, not_t', not_f'] <;> with_reducible rfl
           dsimp only [go_sem])
        | (with_reducible refine kon_g_undef ?_ ?_
           · dsimp only [nth] <;> with_reducible rfl
           dsimp only [go_sem])
        | (with_reducible refine kon_g fun R hR => ?_
           dsimp only [go_sem, Nat.reduceAdd, Nat.reduceMul, Nat.reduceSub, Nat.reduceBEq, Nat.reduceLeDiff, Nat.reduceEqDiff, ↓dreduceIte, toG, tb7_22, tb7_23, tb7_24, tb7_25, tb7_26, conEqItemS, conPlanOk, conSzItemS, conToItemS]
           split <;> (rename_i hb; with_reducible refine hR _ ?_; clear hR R; try simp only [hb]; try simp only [decide_eq_true_eq, decide_eq_false_iff_not, beq_iff_eq, beq_eq_false_iff_ne, bne_iff_ne, bne_eq_false_iff_eq, Bool.not_eq_true, Bool.not_eq_false, Bool.not_eq_eq_eq_not, Bool.not_true, Bool.not_false, ne_eq, Int.not_lt, Int.not_le, eq_self, not_true_eq_false, not_false_eq_true, decide_true, decide_false, Bool.and_eq_true, Bool.or_eq_true, Bool.and_eq_false_iff, Bool.or_eq_false_iff, gt_iff_lt, ge_iff_le, Bool.false_eq_true, Bool.true_eq_false, reduceCtorEq, or_false, false_or, or_true, true_or, false_and, and_false, szN_lt, szN_ge] at hb; try (exfalso; omega)))
        | (with_reducible refine kon_cond fun R1 R2 h1 h2 => ?_
           dsimp only [go_sem]
           first
             | (with_reducible refine h1 ?_; clear h1 h2 R1 R2)
             | (with_reducible refine h2 ?_; clear h1 h2 R1 R2)
             | (split <;> rename_i hb <;> first
                 | (with_reducible refine h1 ?_; clear h1 h2 R1 R2; try simp only [hb]; try simp only [decide_eq_true_eq, decide_eq_false_iff_not, beq_iff_eq, beq_eq_false_iff_ne, bne_iff_ne, bne_eq_false_iff_eq, Bool.not_eq_true, Bool.not_eq_false, Bool.not_eq_eq_eq_not, Bool.not_true, Bool.not_false, ne_eq, Int.not_lt, Int.not_le, eq_self, not_true_eq_false, not_false_eq_true, decide_true, decide_false, Bool.and_eq_true, Bool.or_eq_true, Bool.and_eq_false_iff, Bool.or_eq_false_iff, gt_iff_lt, ge_iff_le, Bool.false_eq_true, Bool.true_eq_false, reduceCtorEq, or_false, false_or, or_true, true_or, false_and, and_false, szN_lt, szN_ge] at hb; try (exfalso; omega))
                 | (with_reducible refine h2 ?_; clear h1 h2 R1 R2; try simp only [hb]; try simp only [decide_eq_true_eq, decide_eq_false_iff_not, beq_iff_eq, beq_eq_false_iff_ne, bne_iff_ne, bne_eq_false_iff_eq, Bool.not_eq_true, Bool.not_eq_false, Bool.not_eq_eq_eq_not, Bool.not_true, Bool.not_false, ne_eq, Int.not_lt, Int.not_le, eq_self, not_true_eq_false, not_false_eq_true, decide_true, decide_false, Bool.and_eq_true, Bool.or_eq_true, Bool.and_eq_false_iff, Bool.or_eq_false_iff, gt_iff_lt, ge_iff_le, Bool.false_eq_true, Bool.true_eq_false, reduceCtorEq, or_false, false_or, or_true, true_or, false_and, and_false, szN_lt, szN_ge] at hb; try (exfalso; omega))))
      all_goals first
        | (dsimp only [kon]
           with_reducible refine hQ _ _ _ ?_
           dsimp only [kon, endQ, af7, conLawPlan, go_sem, Nat.reduceAdd, Nat.reduceMul, Nat.reduceSub, Nat.reduceBEq, Nat.reduceLeDiff, Nat.reduceEqDiff, ↓dreduceIte, toG, tb7_22, tb7_23, tb7_24, tb7_25, tb7_26, conEqItemS, conPlanOk, conSzItemS, conToItemS]
           try simp (disch := omega) only [guardP_T, guardP_pos, iteN, rd_set, List.set_set, List.length_set, eta_fact, eta_rumor, eta_doubt, eta_item, eta_rec, eta_due, look, look0, rd_toNat, wrap64, Int.toNat_natCast, Nat.zero_add, List.take_length, List.drop_zero, and_self, setB_len, true_and, and_true]
           try dsimp only [go_sem, Nat.reduceAdd, Nat.reduceMul, Nat.reduceSub, Nat.reduceBEq, Nat.reduceLeDiff, Nat.reduceEqDiff, ↓dreduceIte, toG, tb7_22, tb7_23, tb7_24, tb7_25, tb7_26, conEqItemS, conPlanOk, conSzItemS, conToItemS])
        | skip
      all_goals try first
        | omega
        | (simp; done)
        | (simp; omega)
      all_goals rfl
    · simp at h'

end Go.Proofs.Ytbiefokigponpaa
