/- Shows: the law. -/
import Derived.Test.YtnghlmogcbmlfaaShoC
namespace Go.Proofs.Ytnghlmogcbmlfaa
set_option linter.unusedVariables false
set_option linter.unusedSimpArgs false
set_option linter.unnecessarySimpa false

def conLawS : Con := ⟨[.imm .rcd, .v, .imm .int], .v, fun as => match as with
  | [.sl .rcd _, .int .i64 _, .sl .int _] => some (.bool true, [])
  | _ => none⟩

def tb11 : Tab := fun f => match f with
  | 16 => some conSzRecS
  | 18 => some conToRecS
  | 20 => some conEqRecS
  | 23 => some conEqI
  | 53 => some conShows
  | 54 => some conToI
  | 55 => some conShows
  | _ => none

theorem tb11_16 : tb11 16 = some conSzRecS := rfl
theorem tb11_18 : tb11 18 = some conToRecS := rfl
theorem tb11_20 : tb11 20 = some conEqRecS := rfl
theorem tb11_23 : tb11 23 = some conEqI := rfl
theorem tb11_53 : tb11 53 = some conShows := rfl
theorem tb11_54 : tb11 54 = some conToI := rfl
theorem tb11_55 : tb11 55 = some conShows := rfl

-- loop.example/g00678/laws.FnExactShows hows []
def af11 : AF := ⟨47, [.t 6],
  .seq (.reg [⟨some 6, .mv (.b false), none⟩])
  (.seq (.seq (.reg [⟨some 12, .mv (.t 2), none⟩,
    ⟨some 13, .len (.t 12), none⟩,
    ⟨some 14, .bin .gtr (.t 13) (.i 1048576), none⟩])
  (.cond (.t 14)
    (.seq (.reg [⟨some 6, .mv (.b true), none⟩])
    (.ret))
    (.skip)))
  (.seq (.reg [⟨some 7, .mv (.i 1048576), none⟩])
  (.seq (.reg [⟨some 15, .mv (.t 0), none⟩,
    ⟨some 16, .mv (.t 7), none⟩,
    ⟨some 17, .call 16 [(.t 15), (.t 16)], none⟩,
    ⟨some 7, .mv (.t 17), none⟩])
  (.seq (.seq (.reg [⟨some 18, .mv (.t 7), none⟩,
    ⟨some 19, .bin .lss (.t 18) (.i 0), none⟩])
  (.cond (.t 19)
    (.seq (.reg [⟨some 6, .mv (.b true), none⟩])
    (.ret))
    (.skip)))
  (.seq (.reg [⟨some 20, .mv (.t 0), none⟩,
    ⟨some 21, .call 18 [(.t 20)], none⟩,
    ⟨some 22, .mv (.t 1), none⟩,
    ⟨some 23, .mv (.t 2), none⟩,
    ⟨some 24, .call 54 [(.t 23)], none⟩,
    ⟨some 25, .call 53 [(.t 21), (.t 22), (.t 24)], none⟩,
    ⟨some 8, .mv (.t 25), none⟩])
  (.seq (.reg [⟨some 26, .mv (.t 0), none⟩,
    ⟨some 27, .call 18 [(.t 26)], none⟩,
    ⟨some 9, .mv (.t 27), none⟩])
  (.seq (.reg [⟨some 28, .mv (.t 2), none⟩,
    ⟨some 29, .call 54 [(.t 28)], none⟩,
    ⟨some 10, .mv (.t 29), none⟩])
  (.seq (.reg [⟨some 30, .mv (.t 9), none⟩,
    ⟨some 31, .mv (.t 1), none⟩,
    ⟨some 32, .mv (.t 10), none⟩,
    ⟨some 33, .call 55 [(.t 30), (.t 31), (.t 32)], none⟩,
    ⟨some 11, .mv (.t 33), none⟩])
  (.seq (.seq (.reg [⟨some 34, .mv (.t 11), none⟩,
    ⟨some 35, .mv (.t 8), none⟩,
    ⟨some 36, .eqb true (.t 34) (.t 35), none⟩])
  (.cond (.t 36)
    (.seq (.reg [⟨some 6, .mv (.b false), none⟩])
    (.ret))
    (.skip)))
  (.seq (.seq (.reg [⟨some 37, .mv (.t 9), none⟩,
    ⟨some 38, .mv (.t 0), none⟩,
    ⟨some 39, .call 18 [(.t 38)], none⟩,
    ⟨some 40, .call 20 [(.t 37), (.t 39)], none⟩,
    ⟨some 41, .un .not (.t 40), none⟩])
  (.cond (.t 41)
    (.seq (.reg [⟨some 6, .mv (.b false), none⟩])
    (.ret))
    (.skip)))
  (.seq (.seq (.reg [⟨some 42, .mv (.t 10), none⟩,
    ⟨some 43, .mv (.t 2), none⟩,
    ⟨some 44, .call 54 [(.t 43)], none⟩,
    ⟨some 45, .call 23 [(.t 42), (.t 44)], none⟩,
    ⟨some 46, .un .not (.t 45), none⟩])
  (.cond (.t 46)
    (.seq (.reg [⟨some 6, .mv (.b false), none⟩])
    (.ret))
    (.skip)))
  (.seq (.reg [⟨some 6, .mv (.b true), none⟩])
  (.ret)))))))))))))⟩

set_option maxHeartbeats 4000000 in
theorem does11 (as : List AV) (hok : ok 64 as) : Does tb11 af11 conLawS as := by
  cases h : (conLawS).run as with
  | none => exact does_none h
  | some out =>
    have h' := h
    simp only [conLawS] at h'
    split at h'
    · rename_i l c ls
      simp only [Option.some.injEq] at h'
      subst h'
      have hmo : (most : Int) = 1099511627776 := rfl
      have hml : (maxLen : Int) = 9223372036854775807 := rfl
      with_reducible refine does_by h fun Q hQ => ?_
      clear h
      dsimp only [af11, conLawS, go_sem, Nat.reduceAdd, Nat.reduceMul, Nat.reduceSub, Nat.reduceBEq, Nat.reduceLeDiff, Nat.reduceEqDiff, ↓dreduceIte, toG, tb11_16, tb11_18, tb11_20, tb11_23, tb11_53, tb11_54, tb11_55, conEqI, conEqRecS, conShows, conSzRecS, conToI, conToRecS]
      repeat' first
        | with_reducible refine kon_seq ?_
        | with_reducible refine kon_nil ?_
        | with_reducible refine kon_any ?_ ?_
        | with_reducible exact kon_any_nil
        | with_reducible refine kon_skip ?_
        | with_reducible refine kon_block ?_
        | with_reducible refine kon_ret ?_
        | with_reducible refine kon_exit ?_
        | with_reducible refine kon_past_ret ?_
        | with_reducible refine kon_past_exit ?_
        | with_reducible refine kon_blk_ret ?_
        | with_reducible refine kon_blk_end ?_
        | with_reducible refine kon_blk_exit ?_
        | (with_reducible refine kon_blk_past ?_ ?_
           · decide)
        | with_reducible refine loop_exit ?_
        | with_reducible refine loop_ret ?_
        | with_reducible refine mid_exit ?_
        | with_reducible refine mid_ret ?_
        | ((first | with_reducible refine kon_bin fun R hR => ?_ | with_reducible refine kon_conv fun R hR => ?_)
           dsimp only [go_sem, Nat.reduceAdd, Nat.reduceMul, Nat.reduceSub, Nat.reduceBEq, Nat.reduceLeDiff, Nat.reduceEqDiff, ↓dreduceIte, toG, tb11_16, tb11_18, tb11_20, tb11_23, tb11_53, tb11_54, tb11_55, conEqI, conEqRecS, conShows, conSzRecS, conToI, conToRecS]
           try simp (disch := first | omega | (simp only [List.length_set, List.length_append, List.length_cons, List.length_nil, List.length_replicate]; omega)) only [guardP_T, guardP_pos, iteN, rd_set, List.set_set, List.length_set, eta_fact, eta_rumor, eta_doubt, eta_item, eta_rec, eta_due, look, look0, rd_toNat, wrap64, Int.toNat_natCast, Nat.zero_add, List.take_length, List.drop_zero, and_self, setB_len, true_and, and_true, szN_lt, szN_ge]
           with_reducible refine hR _ ?_
           clear hR R)
        | (with_reducible refine kon_ins fun R hR => ?_
           dsimp only [go_sem, Nat.reduceAdd, Nat.reduceMul, Nat.reduceSub, Nat.reduceBEq, Nat.reduceLeDiff, Nat.reduceEqDiff, ↓dreduceIte, toG, tb11_16, tb11_18, tb11_20, tb11_23, tb11_53, tb11_54, tb11_55, conEqI, conEqRecS, conShows, conSzRecS, conToI, conToRecS]
           first
             | with_reducible refine hR _ ?_
             | (simp (disch := first | omega | (simp only [List.length_set, List.length_append, List.length_cons, List.length_nil, List.length_replicate]; omega)) only [guardP_T, guardP_pos, iteN, rd_set, List.set_set, List.length_set, eta_fact, eta_rumor, eta_doubt, eta_item, eta_rec, eta_due, look, look0, rd_toNat, wrap64, Int.toNat_natCast, Nat.zero_add, List.take_length, List.drop_zero, and_self, setB_len, true_and, and_true, szN_lt, szN_ge]
                try dsimp only [go_sem, Nat.reduceAdd, Nat.reduceMul, Nat.reduceSub, Nat.reduceBEq, Nat.reduceLeDiff, Nat.reduceEqDiff, ↓dreduceIte, toG, tb11_16, tb11_18, tb11_20, tb11_23, tb11_53, tb11_54, tb11_55, conEqI, conEqRecS, conShows, conSzRecS, conToI, conToRecS]
                try simp (disch := first | omega | (simp only [List.length_set, List.length_append, List.length_cons, List.length_nil, List.length_replicate]; omega)) only [guardP_T, guardP_pos, iteN, rd_set, List.set_set, List.length_set, eta_fact, eta_rumor, eta_doubt, eta_item, eta_rec, eta_due, look, look0, rd_toNat, wrap64, Int.toNat_natCast, Nat.zero_add, List.take_length, List.drop_zero, and_self, setB_len, true_and, and_true, szN_lt, szN_ge]
                with_reducible refine hR _ ?_)
           clear hR R)
        | (with_reducible refine kon_g_run ?_ ?_
           · dsimp only [nth] <;> with_reducible rfl)
        | (with_reducible refine kon_g_skip ?_ ?_
           · dsimp only [nth, not_t', not_f'] <;> with_reducible rfl
           dsimp only [go_sem])
        | (with_reducible refine kon_g_undef ?_ ?_
           · dsimp only [nth] <;> with_reducible rfl
           dsimp only [go_sem])
        | (with_reducible refine kon_g fun R hR => ?_
           dsimp only [go_sem, Nat.reduceAdd, Nat.reduceMul, Nat.reduceSub, Nat.reduceBEq, Nat.reduceLeDiff, Nat.reduceEqDiff, ↓dreduceIte, toG, tb11_16, tb11_18, tb11_20, tb11_23, tb11_53, tb11_54, tb11_55, conEqI, conEqRecS, conShows, conSzRecS, conToI, conToRecS]
           split <;> (rename_i hb; with_reducible refine hR _ ?_; clear hR R; try simp only [hb]; try simp only [decide_eq_true_eq, decide_eq_false_iff_not, beq_iff_eq, beq_eq_false_iff_ne, bne_iff_ne, bne_eq_false_iff_eq, Bool.not_eq_true, Bool.not_eq_false, Bool.not_eq_eq_eq_not, Bool.not_true, Bool.not_false, ne_eq, Int.not_lt, Int.not_le, eq_self, not_true_eq_false, not_false_eq_true, decide_true, decide_false, Bool.and_eq_true, Bool.or_eq_true, Bool.and_eq_false_iff, Bool.or_eq_false_iff, gt_iff_lt, ge_iff_le, Bool.false_eq_true, Bool.true_eq_false, reduceCtorEq, or_false, false_or, or_true, true_or, false_and, and_false, szN_lt, szN_ge] at hb; try (exfalso; omega)))
        | (with_reducible refine kon_cond fun R1 R2 h1 h2 => ?_
           dsimp only [go_sem]
           first
             | (with_reducible refine h1 ?_; clear h1 h2 R1 R2)
             | (with_reducible refine h2 ?_; clear h1 h2 R1 R2)
             | ((split <;> rename_i hb <;> first
                 | (with_reducible refine h1 ?_; clear h1 h2 R1 R2; try simp only [hb])
                 | (with_reducible refine h2 ?_; clear h1 h2 R1 R2; try simp only [hb])) <;> (try simp only [decide_eq_true_eq, decide_eq_false_iff_not, beq_iff_eq, beq_eq_false_iff_ne, bne_iff_ne, bne_eq_false_iff_eq, Bool.not_eq_true, Bool.not_eq_false, Bool.not_eq_eq_eq_not, Bool.not_true, Bool.not_false, ne_eq, Int.not_lt, Int.not_le, eq_self, not_true_eq_false, not_false_eq_true, decide_true, decide_false, Bool.and_eq_true, Bool.or_eq_true, Bool.and_eq_false_iff, Bool.or_eq_false_iff, gt_iff_lt, ge_iff_le, Bool.false_eq_true, Bool.true_eq_false, reduceCtorEq, or_false, false_or, or_true, true_or, false_and, and_false, szN_lt, szN_ge] at hb; try (exfalso; omega))))
      all_goals first
        | (dsimp only [kon]
           with_reducible refine hQ _ _ _ ?_
           dsimp only [kon, endQ, af11, conLawS, go_sem, Nat.reduceAdd, Nat.reduceMul, Nat.reduceSub, Nat.reduceBEq, Nat.reduceLeDiff, Nat.reduceEqDiff, ↓dreduceIte, toG, tb11_16, tb11_18, tb11_20, tb11_23, tb11_53, tb11_54, tb11_55, conEqI, conEqRecS, conShows, conSzRecS, conToI, conToRecS]
           try simp (disch := first | omega | (simp only [List.length_set, List.length_append, List.length_cons, List.length_nil, List.length_replicate]; omega)) only [guardP_T, guardP_pos, iteN, rd_set, List.set_set, List.length_set, eta_fact, eta_rumor, eta_doubt, eta_item, eta_rec, eta_due, look, look0, rd_toNat, wrap64, Int.toNat_natCast, Nat.zero_add, List.take_length, List.drop_zero, and_self, setB_len, true_and, and_true]
           try dsimp only [go_sem, Nat.reduceAdd, Nat.reduceMul, Nat.reduceSub, Nat.reduceBEq, Nat.reduceLeDiff, Nat.reduceEqDiff, ↓dreduceIte, toG, tb11_16, tb11_18, tb11_20, tb11_23, tb11_53, tb11_54, tb11_55, conEqI, conEqRecS, conShows, conSzRecS, conToI, conToRecS])
        | skip
      all_goals try first
        | omega
        | (simp; done)
        | (simp; omega)
      all_goals first
        | rfl
    · simp at h'

end Go.Proofs.Ytnghlmogcbmlfaa
