/- No record breaks a clause: the law. -/
import Derived.Test.YtpinkajnaeacdaaFitsG
namespace Go.Proofs.Ytpinkajnaeacdaa
set_option linter.unusedVariables false
set_option linter.unusedSimpArgs false
set_option linter.unnecessarySimpa false

def conLawRI : Con := ⟨[.imm .rcd, .v], .v, fun as => match as with
  | [.sl .rcd _, .int .i64 _] => some (.bool true, [])
  | _ => none⟩

def tb11 : Tab := fun f => match f with
  | 15 => some conSzRecS
  | 17 => some conToRecS
  | 19 => some conEqRecS
  | 39 => some conFits
  | 40 => some conFits
  | _ => none

theorem tb11_15 : tb11 15 = some conSzRecS := rfl
theorem tb11_17 : tb11 17 = some conToRecS := rfl
theorem tb11_19 : tb11 19 = some conEqRecS := rfl
theorem tb11_39 : tb11 39 = some conFits := rfl
theorem tb11_40 : tb11 40 = some conFits := rfl

-- loop.example/g00678/laws.FnExactFits hows []
def af11 : AF := ⟨31, [.t 4],
  .seq (.reg [⟨some 4, .mv (.b false), none⟩])
  (.seq (.reg [⟨some 5, .mv (.i 1048576), none⟩])
  (.seq (.reg [⟨some 9, .mv (.t 0), none⟩,
    ⟨some 10, .mv (.t 5), none⟩,
    ⟨some 11, .call 15 [(.t 9), (.t 10)], none⟩,
    ⟨some 5, .mv (.t 11), none⟩])
  (.seq (.seq (.reg [⟨some 12, .mv (.t 5), none⟩,
    ⟨some 13, .bin .lss (.t 12) (.i 0), none⟩])
  (.cond (.t 13)
    (.seq (.reg [⟨some 4, .mv (.b true), none⟩])
    (.ret))
    (.skip)))
  (.seq (.reg [⟨some 14, .mv (.t 0), none⟩,
    ⟨some 15, .call 17 [(.t 14)], none⟩,
    ⟨some 16, .mv (.t 1), none⟩,
    ⟨some 17, .call 39 [(.t 15), (.t 16)], none⟩,
    ⟨some 6, .mv (.t 17), none⟩])
  (.seq (.reg [⟨some 18, .mv (.t 0), none⟩,
    ⟨some 19, .call 17 [(.t 18)], none⟩,
    ⟨some 7, .mv (.t 19), none⟩])
  (.seq (.reg [⟨some 20, .mv (.t 7), none⟩,
    ⟨some 21, .mv (.t 1), none⟩,
    ⟨some 22, .call 40 [(.t 20), (.t 21)], none⟩,
    ⟨some 8, .mv (.t 22), none⟩])
  (.seq (.seq (.reg [⟨some 23, .mv (.t 8), none⟩,
    ⟨some 24, .mv (.t 6), none⟩,
    ⟨some 25, .eqb true (.t 23) (.t 24), none⟩])
  (.cond (.t 25)
    (.seq (.reg [⟨some 4, .mv (.b false), none⟩])
    (.ret))
    (.skip)))
  (.seq (.seq (.reg [⟨some 26, .mv (.t 7), none⟩,
    ⟨some 27, .mv (.t 0), none⟩,
    ⟨some 28, .call 17 [(.t 27)], none⟩,
    ⟨some 29, .call 19 [(.t 26), (.t 28)], none⟩,
    ⟨some 30, .un .not (.t 29), none⟩])
  (.cond (.t 30)
    (.seq (.reg [⟨some 4, .mv (.b false), none⟩])
    (.ret))
    (.skip)))
  (.seq (.reg [⟨some 4, .mv (.b true), none⟩])
  (.ret))))))))))⟩

set_option maxHeartbeats 4000000 in
theorem does11 (as : List AV) (hok : ok 64 as) : Does tb11 af11 conLawRI as := by
  cases h : (conLawRI).run as with
  | none => exact does_none h
  | some out =>
    have h' := h
    simp only [conLawRI] at h'
    split at h'
    · rename_i l c
      simp only [Option.some.injEq] at h'
      subst h'
      have hmo : (most : Int) = 1099511627776 := rfl
      have hml : (maxLen : Int) = 9223372036854775807 := rfl
      with_reducible refine does_by h fun Q hQ => ?_
      clear h
      dsimp only [af11, conLawRI, go_sem, Nat.reduceAdd, Nat.reduceMul, Nat.reduceSub, Nat.reduceBEq, Nat.reduceLeDiff, Nat.reduceEqDiff, ↓dreduceIte, toG, tb11_15, tb11_17, tb11_19, tb11_39, tb11_40, conEqRecS, conFits, conSzRecS, conToRecS]
      repeat' first
        | with_reducible refine kon_seq ?_
        | with_reducible refine kon_nil ?_
        | with_reducible refine kon_skip ?_
        | with_reducible refine kon_block ?_
        | with_reducible refine kon_ret ?_
        | with_reducible refine kon_exit ?_
        | with_reducible refine kon_past_ret ?_
        | with_reducible refine kon_past_exit ?_
        | with_reducible refine kon_blk_ret ?_
        | with_reducible refine kon_blk_end ?_
        | with_reducible refine kon_blk_exit ?_
        | (with_reducible refine kon_blk_past ?_ ?_
           · decide)
        | with_reducible refine loop_exit ?_
        | with_reducible refine loop_ret ?_
        | with_reducible refine mid_exit ?_
        | with_reducible refine mid_ret ?_
        | (with_reducible refine kon_bin fun R hR => ?_
           dsimp only [go_sem, Nat.reduceAdd, Nat.reduceMul, Nat.reduceSub, Nat.reduceBEq, Nat.reduceLeDiff, Nat.reduceEqDiff, ↓dreduceIte, toG, tb11_15, tb11_17, tb11_19, tb11_39, tb11_40, conEqRecS, conFits, conSzRecS, conToRecS]
           try simp (disch := first | omega | (simp only [List.length_set, List.length_append, List.length_cons, List.length_nil, List.length_replicate]; omega)) only [guardP_T, guardP_pos, iteN, rd_set, List.set_set, List.length_set, eta_fact, eta_rumor, eta_doubt, eta_item, eta_rec, eta_due, look, look0, rd_toNat, wrap64, Int.toNat_natCast, Nat.zero_add, List.take_length, List.drop_zero, and_self, setB_len, true_and, and_true, szN_lt, szN_ge]
           with_reducible refine hR _ ?_
           clear hR R)
        | (with_reducible refine kon_conv fun R hR => ?_
           dsimp only [go_sem, Nat.reduceAdd, Nat.reduceMul, Nat.reduceSub, Nat.reduceBEq, Nat.reduceLeDiff, Nat.reduceEqDiff, ↓dreduceIte, toG, tb11_15, tb11_17, tb11_19, tb11_39, tb11_40, conEqRecS, conFits, conSzRecS, conToRecS]
           try simp (disch := first | omega | (simp only [List.length_set, List.length_append, List.length_cons, List.length_nil, List.length_replicate]; omega)) only [guardP_T, guardP_pos, iteN, rd_set, List.set_set, List.length_set, eta_fact, eta_rumor, eta_doubt, eta_item, eta_rec, eta_due, look, look0, rd_toNat, wrap64, Int.toNat_natCast, Nat.zero_add, List.take_length, List.drop_zero, and_self, setB_len, true_and, and_true, szN_lt, szN_ge]
           with_reducible refine hR _ ?_
           clear hR R)
        | (with_reducible refine kon_ins fun R hR => ?_
           dsimp only [go_sem, Nat.reduceAdd, Nat.reduceMul, Nat.reduceSub, Nat.reduceBEq, Nat.reduceLeDiff, Nat.reduceEqDiff, ↓dreduceIte, toG, tb11_15, tb11_17, tb11_19, tb11_39, tb11_40, conEqRecS, conFits, conSzRecS, conToRecS]
           first
             | with_reducible refine hR _ ?_
             | (simp (disch := first | omega | (simp only [List.length_set, List.length_append, List.length_cons, List.length_nil, List.length_replicate]; omega)) only [guardP_T, guardP_pos, iteN, rd_set, List.set_set, List.length_set, eta_fact, eta_rumor, eta_doubt, eta_item, eta_rec, eta_due, look, look0, rd_toNat, wrap64, Int.toNat_natCast, Nat.zero_add, List.take_length, List.drop_zero, and_self, setB_len, true_and, and_true, szN_lt, szN_ge]
                try dsimp only [go_sem, Nat.reduceAdd, Nat.reduceMul, Nat.reduceSub, Nat.reduceBEq, Nat.reduceLeDiff, Nat.reduceEqDiff, ↓dreduceIte, toG, tb11_15, tb11_17, tb11_19, tb11_39, tb11_40, conEqRecS, conFits, conSzRecS, conToRecS]
                try simp (disch := first | omega | (simp only [List.length_set, List.length_append, List.length_cons, List.length_nil, List.length_replicate]; omega)) only [guardP_T, guardP_pos, iteN, rd_set, List.set_set, List.length_set, eta_fact, eta_rumor, eta_doubt, eta_item, eta_rec, eta_due, look, look0, rd_toNat, wrap64, Int.toNat_natCast, Nat.zero_add, List.take_length, List.drop_zero, and_self, setB_len, true_and, and_true, szN_lt, szN_ge]
                with_reducible refine hR _ ?_)
           clear hR R)
        | (with_reducible refine kon_g_run ?_ ?_
           · dsimp only [nth] <;> with_reducible rfl)
        | (with_reducible refine kon_g_skip ?_ ?_
           · dsimp only [nth, not_t', not_f'] <;> with_reducible rfl
           dsimp only [go_sem])
        | (with_reducible refine kon_g_undef ?_ ?_
           · dsimp only [nth] <;> with_reducible rfl
           dsimp only [go_sem])
        | (with_reducible refine kon_g fun R hR => ?_
           dsimp only [go_sem, Nat.reduceAdd, Nat.reduceMul, Nat.reduceSub, Nat.reduceBEq, Nat.reduceLeDiff, Nat.reduceEqDiff, ↓dreduceIte, toG, tb11_15, tb11_17, tb11_19, tb11_39, tb11_40, conEqRecS, conFits, conSzRecS, conToRecS]
           split <;> (rename_i hb; with_reducible refine hR _ ?_; clear hR R; try simp only [hb]; try simp only [decide_eq_true_eq, decide_eq_false_iff_not, beq_iff_eq, beq_eq_false_iff_ne, bne_iff_ne, bne_eq_false_iff_eq, Bool.not_eq_true, Bool.not_eq_false, Bool.not_eq_eq_eq_not, Bool.not_true, Bool.not_false, ne_eq, Int.not_lt, Int.not_le, eq_self, not_true_eq_false, not_false_eq_true, decide_true, decide_false, Bool.and_eq_true, Bool.or_eq_true, Bool.and_eq_false_iff, Bool.or_eq_false_iff, gt_iff_lt, ge_iff_le, Bool.false_eq_true, Bool.true_eq_false, reduceCtorEq, or_false, false_or, or_true, true_or, false_and, and_false, szN_lt, szN_ge] at hb; try (exfalso; omega)))
        | (with_reducible refine kon_cond fun R1 R2 h1 h2 => ?_
           dsimp only [go_sem]
           first
             | (with_reducible refine h1 ?_; clear h1 h2 R1 R2)
             | (with_reducible refine h2 ?_; clear h1 h2 R1 R2)
             | (split <;> rename_i hb <;> first
                 | (with_reducible refine h1 ?_; clear h1 h2 R1 R2; try simp only [hb]; try simp only [decide_eq_true_eq, decide_eq_false_iff_not, beq_iff_eq, beq_eq_false_iff_ne, bne_iff_ne, bne_eq_false_iff_eq, Bool.not_eq_true, Bool.not_eq_false, Bool.not_eq_eq_eq_not, Bool.not_true, Bool.not_false, ne_eq, Int.not_lt, Int.not_le, eq_self, not_true_eq_false, not_false_eq_true, decide_true, decide_false, Bool.and_eq_true, Bool.or_eq_true, Bool.and_eq_false_iff, Bool.or_eq_false_iff, gt_iff_lt, ge_iff_le, Bool.false_eq_true, Bool.true_eq_false, reduceCtorEq, or_false, false_or, or_true, true_or, false_and, and_false, szN_lt, szN_ge] at hb; try (exfalso; omega))
                 | (with_reducible refine h2 ?_; clear h1 h2 R1 R2; try simp only [hb]; try simp only [decide_eq_true_eq, decide_eq_false_iff_not, beq_iff_eq, beq_eq_false_iff_ne, bne_iff_ne, bne_eq_false_iff_eq, Bool.not_eq_true, Bool.not_eq_false, Bool.not_eq_eq_eq_not, Bool.not_true, Bool.not_false, ne_eq, Int.not_lt, Int.not_le, eq_self, not_true_eq_false, not_false_eq_true, decide_true, decide_false, Bool.and_eq_true, Bool.or_eq_true, Bool.and_eq_false_iff, Bool.or_eq_false_iff, gt_iff_lt, ge_iff_le, Bool.false_eq_true, Bool.true_eq_false, reduceCtorEq, or_false, false_or, or_true, true_or, false_and, and_false, szN_lt, szN_ge] at hb; try (exfalso; omega))))
      all_goals first
        | (dsimp only [kon]
           with_reducible refine hQ _ _ _ ?_
           dsimp only [kon, endQ, af11, conLawRI, go_sem, Nat.reduceAdd, Nat.reduceMul, Nat.reduceSub, Nat.reduceBEq, Nat.reduceLeDiff, Nat.reduceEqDiff, ↓dreduceIte, toG, tb11_15, tb11_17, tb11_19, tb11_39, tb11_40, conEqRecS, conFits, conSzRecS, conToRecS]
           try simp (disch := first | omega | (simp only [List.length_set, List.length_append, List.length_cons, List.length_nil, List.length_replicate]; omega)) only [guardP_T, guardP_pos, iteN, rd_set, List.set_set, List.length_set, eta_fact, eta_rumor, eta_doubt, eta_item, eta_rec, eta_due, look, look0, rd_toNat, wrap64, Int.toNat_natCast, Nat.zero_add, List.take_length, List.drop_zero, and_self, setB_len, true_and, and_true]
           try dsimp only [go_sem, Nat.reduceAdd, Nat.reduceMul, Nat.reduceSub, Nat.reduceBEq, Nat.reduceLeDiff, Nat.reduceEqDiff, ↓dreduceIte, toG, tb11_15, tb11_17, tb11_19, tb11_39, tb11_40, conEqRecS, conFits, conSzRecS, conToRecS])
        | skip
      all_goals try first
        | omega
        | (simp; done)
        | (simp; omega)
      all_goals rfl
    · simp at h'

end Go.Proofs.Ytpinkajnaeacdaa
