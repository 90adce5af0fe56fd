/- Cuts: the laws. -/
import Derived.Test.YtbiefokigponpaaCutsA
namespace Go.Proofs.Ytbiefokigponpaa
set_option linter.unusedVariables false
set_option linter.unusedSimpArgs false
set_option linter.unnecessarySimpa false

def conLawCuts : Con := ⟨[.imm .int, .imm .int], .v, fun as => match as with
  | [.sl .int _, .sl .int _] => some (.bool true, [])
  | _ => none⟩

def tb5 : Tab := fun f => match f with
  | 14 => some conMeet
  | 15 => some conToI
  | 16 => some conMeet
  | 17 => some conEqI
  | 18 => some conMarkI
  | 19 => some conHeldI
  | _ => none

theorem tb5_14 : tb5 14 = some conMeet := rfl
theorem tb5_15 : tb5 15 = some conToI := rfl
theorem tb5_16 : tb5 16 = some conMeet := rfl
theorem tb5_17 : tb5 17 = some conEqI := rfl
theorem tb5_18 : tb5 18 = some conMarkI := rfl
theorem tb5_19 : tb5 19 = some conHeldI := rfl

-- loop.example/g00678/laws.FnExactCutMeet hows []
def af5 : AF := ⟨87, [.t 4],
  .seq (.reg [⟨some 4, .mv (.b false), none⟩])
  (.seq (.seq (.reg [⟨some 13, .mv (.t 0), none⟩,
    ⟨some 14, .len (.t 13), none⟩,
    ⟨some 15, .bin .gtr (.t 14) (.i 1048576), none⟩])
  (.cond (.t 15)
    (.seq (.reg [⟨some 4, .mv (.b true), none⟩])
    (.ret))
    (.skip)))
  (.seq (.seq (.reg [⟨some 16, .mv (.t 1), none⟩,
    ⟨some 17, .len (.t 16), none⟩,
    ⟨some 18, .bin .gtr (.t 17) (.i 1048576), none⟩])
  (.cond (.t 18)
    (.seq (.reg [⟨some 4, .mv (.b true), none⟩])
    (.ret))
    (.skip)))
  (.seq (.reg [⟨some 19, .mv (.t 0), none⟩,
    ⟨some 20, .call 15 [(.t 19)], none⟩,
    ⟨some 21, .mv (.t 1), none⟩,
    ⟨some 22, .call 15 [(.t 21)], none⟩,
    ⟨some 23, .call 14 [(.t 20), (.t 22)], none⟩,
    ⟨some 5, .mv (.t 23), none⟩])
  (.seq (.reg [⟨some 24, .mv (.t 0), none⟩,
    ⟨some 25, .call 15 [(.t 24)], none⟩,
    ⟨some 6, .mv (.t 25), none⟩])
  (.seq (.reg [⟨some 26, .mv (.t 1), none⟩,
    ⟨some 27, .call 15 [(.t 26)], none⟩,
    ⟨some 7, .mv (.t 27), none⟩])
  (.seq (.reg [⟨some 28, .mv (.t 6), none⟩,
    ⟨some 29, .mv (.t 7), none⟩,
    ⟨some 30, .call 16 [(.t 28), (.t 29)], none⟩,
    ⟨some 8, .mv (.t 30), none⟩])
  (.seq (.seq (.reg [⟨some 31, .mv (.t 8), none⟩,
    ⟨some 32, .mv (.t 5), none⟩,
    ⟨some 33, .call 17 [(.t 31), (.t 32)], none⟩,
    ⟨some 34, .un .not (.t 33), none⟩])
  (.cond (.t 34)
    (.seq (.reg [⟨some 4, .mv (.b false), none⟩])
    (.ret))
    (.skip)))
  (.seq (.seq (.reg [⟨some 35, .mv (.t 6), none⟩,
    ⟨some 36, .mv (.t 0), none⟩,
    ⟨some 37, .call 15 [(.t 36)], none⟩,
    ⟨some 38, .call 17 [(.t 35), (.t 37)], none⟩,
    ⟨some 39, .un .not (.t 38), none⟩])
  (.cond (.t 39)
    (.seq (.reg [⟨some 4, .mv (.b false), none⟩])
    (.ret))
    (.skip)))
  (.seq (.seq (.reg [⟨some 40, .mv (.t 7), none⟩,
    ⟨some 41, .mv (.t 1), none⟩,
    ⟨some 42, .call 15 [(.t 41)], none⟩,
    ⟨some 43, .call 17 [(.t 40), (.t 42)], none⟩,
    ⟨some 44, .un .not (.t 43), none⟩])
  (.cond (.t 44)
    (.seq (.reg [⟨some 4, .mv (.b false), none⟩])
    (.ret))
    (.skip)))
  (.seq (.reg [⟨some 9, .mv (.i 1), none⟩])
  (.seq (.reg [⟨some 45, .mv (.t 6), none⟩,
    ⟨some 46, .mv (.t 9), none⟩,
    ⟨some 47, .call 18 [(.t 45), (.t 46)], none⟩,
    ⟨some 9, .mv (.t 47), none⟩])
  (.seq (.reg [⟨some 48, .mv (.t 7), none⟩,
    ⟨some 49, .mv (.t 9), none⟩,
    ⟨some 50, .call 18 [(.t 48), (.t 49)], none⟩,
    ⟨some 9, .mv (.t 50), none⟩])
  (.seq (.seq (.reg [⟨some 51, .mv (.t 9), none⟩,
    ⟨some 52, .bin .lss (.t 51) (.i 0), none⟩,
    ⟨some 53, .mv (.t 52), none⟩,
    ⟨some 54, .mv (.t 8), some (53, false)⟩,
    ⟨some 55, .mv (.t 5), some (53, false)⟩,
    ⟨some 56, .call 17 [(.t 54), (.t 55)], some (53, false)⟩,
    ⟨some 57, .un .not (.t 56), some (53, false)⟩,
    ⟨some 58, .pick (.t 53) (.b true) (.t 57), none⟩])
  (.cond (.t 58)
    (.seq (.reg [⟨some 4, .mv (.b false), none⟩])
    (.ret))
    (.skip)))
  (.seq (.reg [⟨some 10, .mv (.i 1), none⟩])
  (.seq (.reg [⟨some 59, .mv (.t 8), none⟩,
    ⟨some 60, .mv (.t 10), none⟩,
    ⟨some 61, .call 18 [(.t 59), (.t 60)], none⟩,
    ⟨some 10, .mv (.t 61), none⟩])
  (.seq (.reg [⟨some 11, .mv (.i 1), none⟩])
  (.seq (.reg [⟨some 62, .mv (.t 8), none⟩,
    ⟨some 63, .mv (.t 11), none⟩,
    ⟨some 64, .call 19 [(.t 62), (.t 63)], none⟩,
    ⟨some 11, .mv (.t 64), none⟩])
  (.seq (.seq (.reg [⟨some 65, .mv (.t 11), none⟩,
    ⟨some 66, .bin .lss (.t 65) (.i 0), none⟩])
  (.cond (.t 66)
    (.seq (.reg [⟨some 4, .mv (.b false), none⟩])
    (.ret))
    (.skip)))
  (.seq (.seq (.reg [⟨some 67, .mv (.t 11), none⟩,
    ⟨some 68, .mv (.t 10), none⟩,
    ⟨some 69, .bin .neq (.t 67) (.t 68), none⟩])
  (.cond (.t 69)
    (.seq (.reg [⟨some 4, .mv (.b false), none⟩])
    (.ret))
    (.skip)))
  (.seq (.reg [⟨some 70, .mv (.t 0), none⟩,
    ⟨some 71, .call 15 [(.t 70)], none⟩,
    ⟨some 72, .mv (.t 1), none⟩,
    ⟨some 73, .call 15 [(.t 72)], none⟩,
    ⟨some 74, .call 16 [(.t 71), (.t 73)], none⟩,
    ⟨some 12, .mv (.t 74), none⟩])
  (.seq (.seq (.reg [⟨some 75, .mv (.t 12), none⟩,
    ⟨some 76, .mv (.t 5), none⟩,
    ⟨some 77, .call 17 [(.t 75), (.t 76)], none⟩,
    ⟨some 78, .un .not (.t 77), none⟩])
  (.cond (.t 78)
    (.seq (.reg [⟨some 4, .mv (.b false), none⟩])
    (.ret))
    (.skip)))
  (.seq (.reg [⟨some 11, .mv (.i 1), none⟩])
  (.seq (.reg [⟨some 79, .mv (.t 8), none⟩,
    ⟨some 80, .mv (.t 11), none⟩,
    ⟨some 81, .call 19 [(.t 79), (.t 80)], none⟩,
    ⟨some 11, .mv (.t 81), none⟩])
  (.seq (.seq (.reg [⟨some 82, .mv (.t 11), none⟩,
    ⟨some 83, .bin .lss (.t 82) (.i 0), none⟩])
  (.cond (.t 83)
    (.seq (.reg [⟨some 4, .mv (.b false), none⟩])
    (.ret))
    (.skip)))
  (.seq (.seq (.reg [⟨some 84, .mv (.t 11), none⟩,
    ⟨some 85, .mv (.t 10), none⟩,
    ⟨some 86, .bin .neq (.t 84) (.t 85), none⟩])
  (.cond (.t 86)
    (.seq (.reg [⟨some 4, .mv (.b false), none⟩])
    (.ret))
    (.skip)))
  (.seq (.reg [⟨some 4, .mv (.b true), none⟩])
  (.ret)))))))))))))))))))))))))))⟩

set_option maxHeartbeats 4000000 in
theorem does5 (as : List AV) (hok : ok 64 as) : Does tb5 af5 conLawCuts as := by
  cases h : (conLawCuts).run as with
  | none => exact does_none h
  | some out =>
    have h' := h
    simp only [conLawCuts] at h'
    split at h'
    · rename_i a b
      have hlen := both_length mn2 a b
      simp only [Option.some.injEq] at h'
      subst h'
      have hmo : (most : Int) = 1099511627776 := rfl
      have hml : (maxLen : Int) = 9223372036854775807 := rfl
      with_reducible refine does_by h fun Q hQ => ?_
      clear h
      dsimp only [af5, conLawCuts, go_sem, Nat.reduceAdd, Nat.reduceMul, Nat.reduceSub, Nat.reduceBEq, Nat.reduceLeDiff, Nat.reduceEqDiff, ↓dreduceIte, toG, tb5_14, tb5_15, tb5_16, tb5_17, tb5_18, tb5_19, conEqI, conHeldI, conMarkI, conMeet, conToI]
      repeat' first
        | with_reducible refine kon_seq ?_
        | with_reducible refine kon_nil ?_
        | with_reducible refine kon_skip ?_
        | with_reducible refine kon_block ?_
        | with_reducible refine kon_ret ?_
        | with_reducible refine kon_exit ?_
        | with_reducible refine kon_past_ret ?_
        | with_reducible refine kon_past_exit ?_
        | with_reducible refine kon_blk_ret ?_
        | with_reducible refine kon_blk_end ?_
        | with_reducible refine kon_blk_exit ?_
        | with_reducible refine loop_exit ?_
        | with_reducible refine loop_ret ?_
        | with_reducible refine mid_exit ?_
        | with_reducible refine mid_ret ?_
        | (with_reducible refine kon_bin fun R hR => ?_
           dsimp only [go_sem, Nat.reduceAdd, Nat.reduceMul, Nat.reduceSub, Nat.reduceBEq, Nat.reduceLeDiff, Nat.reduceEqDiff, ↓dreduceIte, toG, tb5_14, tb5_15, tb5_16, tb5_17, tb5_18, tb5_19, conEqI, conHeldI, conMarkI, conMeet, conToI]
           try simp (disch := omega) only [guardP_T, guardP_pos, iteN, look, look0, rd_toNat, wrap64, Int.toNat_natCast, Nat.zero_add, List.take_length, List.drop_zero, and_self, setB_len, true_and, and_true, heldI_cf, cf_length, take_cf]
           with_reducible refine hR _ ?_
           clear hR R)
        | (with_reducible refine kon_conv fun R hR => ?_
           dsimp only [go_sem, Nat.reduceAdd, Nat.reduceMul, Nat.reduceSub, Nat.reduceBEq, Nat.reduceLeDiff, Nat.reduceEqDiff, ↓dreduceIte, toG, tb5_14, tb5_15, tb5_16, tb5_17, tb5_18, tb5_19, conEqI, conHeldI, conMarkI, conMeet, conToI]
           try simp (disch := omega) only [guardP_T, guardP_pos, iteN, look, look0, rd_toNat, wrap64, Int.toNat_natCast, Nat.zero_add, List.take_length, List.drop_zero, and_self, setB_len, true_and, and_true, heldI_cf, cf_length, take_cf]
           with_reducible refine hR _ ?_
           clear hR R)
        | (with_reducible refine kon_ins fun R hR => ?_
           dsimp only [go_sem, Nat.reduceAdd, Nat.reduceMul, Nat.reduceSub, Nat.reduceBEq, Nat.reduceLeDiff, Nat.reduceEqDiff, ↓dreduceIte, toG, tb5_14, tb5_15, tb5_16, tb5_17, tb5_18, tb5_19, conEqI, conHeldI, conMarkI, conMeet, conToI]
           first
             | with_reducible refine hR _ ?_
             | (simp (disch := omega) only [guardP_T, guardP_pos, iteN, look, look0, rd_toNat, wrap64, Int.toNat_natCast, Nat.zero_add, List.take_length, List.drop_zero, and_self, setB_len, true_and, and_true, heldI_cf, cf_length, take_cf]
                try dsimp only [go_sem, Nat.reduceAdd, Nat.reduceMul, Nat.reduceSub, Nat.reduceBEq, Nat.reduceLeDiff, Nat.reduceEqDiff, ↓dreduceIte, toG, tb5_14, tb5_15, tb5_16, tb5_17, tb5_18, tb5_19, conEqI, conHeldI, conMarkI, conMeet, conToI]
                try simp (disch := omega) only [guardP_T, guardP_pos, iteN, look, look0, rd_toNat, wrap64, Int.toNat_natCast, Nat.zero_add, List.take_length, List.drop_zero, and_self, setB_len, true_and, and_true, heldI_cf, cf_length, take_cf]
                with_reducible refine hR _ ?_)
           clear hR R)
        | (with_reducible refine kon_g_run ?_ ?_
           · dsimp only [nth] <;> with_reducible rfl)
        | (with_reducible refine kon_g_skip ?_ ?_
           · dsimp only [nth, not_t', not_f'] <;> with_reducible rfl
           dsimp only [go_sem])
        | (with_reducible refine kon_g_undef ?_ ?_
           · dsimp only [nth] <;> with_reducible rfl
           dsimp only [go_sem])
        | (with_reducible refine kon_g fun R hR => ?_
           dsimp only [go_sem, Nat.reduceAdd, Nat.reduceMul, Nat.reduceSub, Nat.reduceBEq, Nat.reduceLeDiff, Nat.reduceEqDiff, ↓dreduceIte, toG, tb5_14, tb5_15, tb5_16, tb5_17, tb5_18, tb5_19, conEqI, conHeldI, conMarkI, conMeet, conToI]
           split <;> (rename_i hb; with_reducible refine hR _ ?_; clear hR R; simp only [hb]; simp only [decide_eq_true_eq, decide_eq_false_iff_not, beq_iff_eq, beq_eq_false_iff_ne, bne_iff_ne, bne_eq_false_iff_eq, Bool.not_eq_true, Bool.not_eq_false, Bool.not_eq_eq_eq_not, Bool.not_true, Bool.not_false, ne_eq, Int.not_lt, Int.not_le, eq_self, not_true_eq_false, not_false_eq_true, decide_true, decide_false, Bool.and_eq_true, Bool.or_eq_true, Bool.and_eq_false_iff, Bool.or_eq_false_iff, gt_iff_lt, ge_iff_le, Bool.false_eq_true, Bool.true_eq_false, reduceCtorEq, or_false, false_or, or_true, true_or, false_and, and_false, heldI_cf, cf_length, take_cf] at hb; try (exfalso; omega)))
        | (with_reducible refine kon_cond fun R1 R2 h1 h2 => ?_
           dsimp only [go_sem]
           first
             | (with_reducible refine h1 ?_; clear h1 h2 R1 R2)
             | (with_reducible refine h2 ?_; clear h1 h2 R1 R2)
             | (split <;> rename_i hb <;> first
                 | (with_reducible refine h1 ?_; clear h1 h2 R1 R2; try simp only [hb]; try simp only [decide_eq_true_eq, decide_eq_false_iff_not, beq_iff_eq, beq_eq_false_iff_ne, bne_iff_ne, bne_eq_false_iff_eq, Bool.not_eq_true, Bool.not_eq_false, Bool.not_eq_eq_eq_not, Bool.not_true, Bool.not_false, ne_eq, Int.not_lt, Int.not_le, eq_self, not_true_eq_false, not_false_eq_true, decide_true, decide_false, Bool.and_eq_true, Bool.or_eq_true, Bool.and_eq_false_iff, Bool.or_eq_false_iff, gt_iff_lt, ge_iff_le, Bool.false_eq_true, Bool.true_eq_false, reduceCtorEq, or_false, false_or, or_true, true_or, false_and, and_false, heldI_cf, cf_length, take_cf] at hb; try (exfalso; omega))
                 | (with_reducible refine h2 ?_; clear h1 h2 R1 R2; try simp only [hb]; try simp only [decide_eq_true_eq, decide_eq_false_iff_not, beq_iff_eq, beq_eq_false_iff_ne, bne_iff_ne, bne_eq_false_iff_eq, Bool.not_eq_true, Bool.not_eq_false, Bool.not_eq_eq_eq_not, Bool.not_true, Bool.not_false, ne_eq, Int.not_lt, Int.not_le, eq_self, not_true_eq_false, not_false_eq_true, decide_true, decide_false, Bool.and_eq_true, Bool.or_eq_true, Bool.and_eq_false_iff, Bool.or_eq_false_iff, gt_iff_lt, ge_iff_le, Bool.false_eq_true, Bool.true_eq_false, reduceCtorEq, or_false, false_or, or_true, true_or, false_and, and_false, heldI_cf, cf_length, take_cf] at hb; try (exfalso; omega))))
      all_goals first
        | (dsimp only [kon]
           with_reducible refine hQ _ _ _ ?_
           dsimp only [kon, endQ, af5, conLawCuts, go_sem, Nat.reduceAdd, Nat.reduceMul, Nat.reduceSub, Nat.reduceBEq, Nat.reduceLeDiff, Nat.reduceEqDiff, ↓dreduceIte, toG, tb5_14, tb5_15, tb5_16, tb5_17, tb5_18, tb5_19, conEqI, conHeldI, conMarkI, conMeet, conToI]
           try simp (disch := omega) only [guardP_T, guardP_pos, iteN, look, look0, rd_toNat, wrap64, Int.toNat_natCast, Nat.zero_add, List.take_length, List.drop_zero, and_self, setB_len, true_and, and_true]
           try dsimp only [go_sem, Nat.reduceAdd, Nat.reduceMul, Nat.reduceSub, Nat.reduceBEq, Nat.reduceLeDiff, Nat.reduceEqDiff, ↓dreduceIte, toG, tb5_14, tb5_15, tb5_16, tb5_17, tb5_18, tb5_19, conEqI, conHeldI, conMarkI, conMeet, conToI])
        | skip
      all_goals try first
        | omega
        | (simp; done)
        | (simp; omega)
      all_goals rfl
    · simp at h'

def tb6 : Tab := fun f => match f with
  | 15 => some conToI
  | 17 => some conEqI
  | 18 => some conMarkI
  | 19 => some conHeldI
  | 20 => some conJoin
  | 21 => some conJoin
  | _ => none

theorem tb6_15 : tb6 15 = some conToI := rfl
theorem tb6_17 : tb6 17 = some conEqI := rfl
theorem tb6_18 : tb6 18 = some conMarkI := rfl
theorem tb6_19 : tb6 19 = some conHeldI := rfl
theorem tb6_20 : tb6 20 = some conJoin := rfl
theorem tb6_21 : tb6 21 = some conJoin := rfl

-- loop.example/g00678/laws.FnExactCutJoin hows []
def af6 : AF := ⟨87, [.t 4],
  .seq (.reg [⟨some 4, .mv (.b false), none⟩])
  (.seq (.seq (.reg [⟨some 13, .mv (.t 0), none⟩,
    ⟨some 14, .len (.t 13), none⟩,
    ⟨some 15, .bin .gtr (.t 14) (.i 1048576), none⟩])
  (.cond (.t 15)
    (.seq (.reg [⟨some 4, .mv (.b true), none⟩])
    (.ret))
    (.skip)))
  (.seq (.seq (.reg [⟨some 16, .mv (.t 1), none⟩,
    ⟨some 17, .len (.t 16), none⟩,
    ⟨some 18, .bin .gtr (.t 17) (.i 1048576), none⟩])
  (.cond (.t 18)
    (.seq (.reg [⟨some 4, .mv (.b true), none⟩])
    (.ret))
    (.skip)))
  (.seq (.reg [⟨some 19, .mv (.t 0), none⟩,
    ⟨some 20, .call 15 [(.t 19)], none⟩,
    ⟨some 21, .mv (.t 1), none⟩,
    ⟨some 22, .call 15 [(.t 21)], none⟩,
    ⟨some 23, .call 20 [(.t 20), (.t 22)], none⟩,
    ⟨some 5, .mv (.t 23), none⟩])
  (.seq (.reg [⟨some 24, .mv (.t 0), none⟩,
    ⟨some 25, .call 15 [(.t 24)], none⟩,
    ⟨some 6, .mv (.t 25), none⟩])
  (.seq (.reg [⟨some 26, .mv (.t 1), none⟩,
    ⟨some 27, .call 15 [(.t 26)], none⟩,
    ⟨some 7, .mv (.t 27), none⟩])
  (.seq (.reg [⟨some 28, .mv (.t 6), none⟩,
    ⟨some 29, .mv (.t 7), none⟩,
    ⟨some 30, .call 21 [(.t 28), (.t 29)], none⟩,
    ⟨some 8, .mv (.t 30), none⟩])
  (.seq (.seq (.reg [⟨some 31, .mv (.t 8), none⟩,
    ⟨some 32, .mv (.t 5), none⟩,
    ⟨some 33, .call 17 [(.t 31), (.t 32)], none⟩,
    ⟨some 34, .un .not (.t 33), none⟩])
  (.cond (.t 34)
    (.seq (.reg [⟨some 4, .mv (.b false), none⟩])
    (.ret))
    (.skip)))
  (.seq (.seq (.reg [⟨some 35, .mv (.t 6), none⟩,
    ⟨some 36, .mv (.t 0), none⟩,
    ⟨some 37, .call 15 [(.t 36)], none⟩,
    ⟨some 38, .call 17 [(.t 35), (.t 37)], none⟩,
    ⟨some 39, .un .not (.t 38), none⟩])
  (.cond (.t 39)
    (.seq (.reg [⟨some 4, .mv (.b false), none⟩])
    (.ret))
    (.skip)))
  (.seq (.seq (.reg [⟨some 40, .mv (.t 7), none⟩,
    ⟨some 41, .mv (.t 1), none⟩,
    ⟨some 42, .call 15 [(.t 41)], none⟩,
    ⟨some 43, .call 17 [(.t 40), (.t 42)], none⟩,
    ⟨some 44, .un .not (.t 43), none⟩])
  (.cond (.t 44)
    (.seq (.reg [⟨some 4, .mv (.b false), none⟩])
    (.ret))
    (.skip)))
  (.seq (.reg [⟨some 9, .mv (.i 1), none⟩])
  (.seq (.reg [⟨some 45, .mv (.t 6), none⟩,
    ⟨some 46, .mv (.t 9), none⟩,
    ⟨some 47, .call 18 [(.t 45), (.t 46)], none⟩,
    ⟨some 9, .mv (.t 47), none⟩])
  (.seq (.reg [⟨some 48, .mv (.t 7), none⟩,
    ⟨some 49, .mv (.t 9), none⟩,
    ⟨some 50, .call 18 [(.t 48), (.t 49)], none⟩,
    ⟨some 9, .mv (.t 50), none⟩])
  (.seq (.seq (.reg [⟨some 51, .mv (.t 9), none⟩,
    ⟨some 52, .bin .lss (.t 51) (.i 0), none⟩,
    ⟨some 53, .mv (.t 52), none⟩,
    ⟨some 54, .mv (.t 8), some (53, false)⟩,
    ⟨some 55, .mv (.t 5), some (53, false)⟩,
    ⟨some 56, .call 17 [(.t 54), (.t 55)], some (53, false)⟩,
    ⟨some 57, .un .not (.t 56), some (53, false)⟩,
    ⟨some 58, .pick (.t 53) (.b true) (.t 57), none⟩])
  (.cond (.t 58)
    (.seq (.reg [⟨some 4, .mv (.b false), none⟩])
    (.ret))
    (.skip)))
  (.seq (.reg [⟨some 10, .mv (.i 1), none⟩])
  (.seq (.reg [⟨some 59, .mv (.t 8), none⟩,
    ⟨some 60, .mv (.t 10), none⟩,
    ⟨some 61, .call 18 [(.t 59), (.t 60)], none⟩,
    ⟨some 10, .mv (.t 61), none⟩])
  (.seq (.reg [⟨some 11, .mv (.i 1), none⟩])
  (.seq (.reg [⟨some 62, .mv (.t 8), none⟩,
    ⟨some 63, .mv (.t 11), none⟩,
    ⟨some 64, .call 19 [(.t 62), (.t 63)], none⟩,
    ⟨some 11, .mv (.t 64), none⟩])
  (.seq (.seq (.reg [⟨some 65, .mv (.t 11), none⟩,
    ⟨some 66, .bin .lss (.t 65) (.i 0), none⟩])
  (.cond (.t 66)
    (.seq (.reg [⟨some 4, .mv (.b false), none⟩])
    (.ret))
    (.skip)))
  (.seq (.seq (.reg [⟨some 67, .mv (.t 11), none⟩,
    ⟨some 68, .mv (.t 10), none⟩,
    ⟨some 69, .bin .neq (.t 67) (.t 68), none⟩])
  (.cond (.t 69)
    (.seq (.reg [⟨some 4, .mv (.b false), none⟩])
    (.ret))
    (.skip)))
  (.seq (.reg [⟨some 70, .mv (.t 0), none⟩,
    ⟨some 71, .call 15 [(.t 70)], none⟩,
    ⟨some 72, .mv (.t 1), none⟩,
    ⟨some 73, .call 15 [(.t 72)], none⟩,
    ⟨some 74, .call 21 [(.t 71), (.t 73)], none⟩,
    ⟨some 12, .mv (.t 74), none⟩])
  (.seq (.seq (.reg [⟨some 75, .mv (.t 12), none⟩,
    ⟨some 76, .mv (.t 5), none⟩,
    ⟨some 77, .call 17 [(.t 75), (.t 76)], none⟩,
    ⟨some 78, .un .not (.t 77), none⟩])
  (.cond (.t 78)
    (.seq (.reg [⟨some 4, .mv (.b false), none⟩])
    (.ret))
    (.skip)))
  (.seq (.reg [⟨some 11, .mv (.i 1), none⟩])
  (.seq (.reg [⟨some 79, .mv (.t 8), none⟩,
    ⟨some 80, .mv (.t 11), none⟩,
    ⟨some 81, .call 19 [(.t 79), (.t 80)], none⟩,
    ⟨some 11, .mv (.t 81), none⟩])
  (.seq (.seq (.reg [⟨some 82, .mv (.t 11), none⟩,
    ⟨some 83, .bin .lss (.t 82) (.i 0), none⟩])
  (.cond (.t 83)
    (.seq (.reg [⟨some 4, .mv (.b false), none⟩])
    (.ret))
    (.skip)))
  (.seq (.seq (.reg [⟨some 84, .mv (.t 11), none⟩,
    ⟨some 85, .mv (.t 10), none⟩,
    ⟨some 86, .bin .neq (.t 84) (.t 85), none⟩])
  (.cond (.t 86)
    (.seq (.reg [⟨some 4, .mv (.b false), none⟩])
    (.ret))
    (.skip)))
  (.seq (.reg [⟨some 4, .mv (.b true), none⟩])
  (.ret)))))))))))))))))))))))))))⟩

set_option maxHeartbeats 4000000 in
theorem does6 (as : List AV) (hok : ok 64 as) : Does tb6 af6 conLawCuts as := by
  cases h : (conLawCuts).run as with
  | none => exact does_none h
  | some out =>
    have h' := h
    simp only [conLawCuts] at h'
    split at h'
    · rename_i a b
      have hlen := both_length mx2 a b
      simp only [Option.some.injEq] at h'
      subst h'
      have hmo : (most : Int) = 1099511627776 := rfl
      have hml : (maxLen : Int) = 9223372036854775807 := rfl
      with_reducible refine does_by h fun Q hQ => ?_
      clear h
      dsimp only [af6, conLawCuts, go_sem, Nat.reduceAdd, Nat.reduceMul, Nat.reduceSub, Nat.reduceBEq, Nat.reduceLeDiff, Nat.reduceEqDiff, ↓dreduceIte, toG, tb6_15, tb6_17, tb6_18, tb6_19, tb6_20, tb6_21, conEqI, conHeldI, conJoin, conMarkI, conToI]
      repeat' first
        | with_reducible refine kon_seq ?_
        | with_reducible refine kon_nil ?_
        | with_reducible refine kon_skip ?_
        | with_reducible refine kon_block ?_
        | with_reducible refine kon_ret ?_
        | with_reducible refine kon_exit ?_
        | with_reducible refine kon_past_ret ?_
        | with_reducible refine kon_past_exit ?_
        | with_reducible refine kon_blk_ret ?_
        | with_reducible refine kon_blk_end ?_
        | with_reducible refine kon_blk_exit ?_
        | with_reducible refine loop_exit ?_
        | with_reducible refine loop_ret ?_
        | with_reducible refine mid_exit ?_
        | with_reducible refine mid_ret ?_
        | (with_reducible refine kon_bin fun R hR => ?_
           dsimp only [go_sem, Nat.reduceAdd, Nat.reduceMul, Nat.reduceSub, Nat.reduceBEq, Nat.reduceLeDiff, Nat.reduceEqDiff, ↓dreduceIte, toG, tb6_15, tb6_17, tb6_18, tb6_19, tb6_20, tb6_21, conEqI, conHeldI, conJoin, conMarkI, conToI]
           try simp (disch := omega) only [guardP_T, guardP_pos, iteN, look, look0, rd_toNat, wrap64, Int.toNat_natCast, Nat.zero_add, List.take_length, List.drop_zero, and_self, setB_len, true_and, and_true, heldI_cf, cf_length, take_cf]
           with_reducible refine hR _ ?_
           clear hR R)
        | (with_reducible refine kon_conv fun R hR => ?_
           dsimp only [go_sem, Nat.reduceAdd, Nat.reduceMul, Nat.reduceSub, Nat.reduceBEq, Nat.reduceLeDiff, Nat.reduceEqDiff, ↓dreduceIte, toG, tb6_15, tb6_17, tb6_18, tb6_19, tb6_20, tb6_21, conEqI, conHeldI, conJoin, conMarkI, conToI]
           try simp (disch := omega) only [guardP_T, guardP_pos, iteN, look, look0, rd_toNat, wrap64, Int.toNat_natCast, Nat.zero_add, List.take_length, List.drop_zero, and_self, setB_len, true_and, and_true, heldI_cf, cf_length, take_cf]
           with_reducible refine hR _ ?_
           clear hR R)
        | (with_reducible refine kon_ins fun R hR => ?_
           dsimp only [go_sem, Nat.reduceAdd, Nat.reduceMul, Nat.reduceSub, Nat.reduceBEq, Nat.reduceLeDiff, Nat.reduceEqDiff, ↓dreduceIte, toG, tb6_15, tb6_17, tb6_18, tb6_19, tb6_20, tb6_21, conEqI, conHeldI, conJoin, conMarkI, conToI]
           first
             | with_reducible refine hR _ ?_
             | (simp (disch := omega) only [guardP_T, guardP_pos, iteN, look, look0, rd_toNat, wrap64, Int.toNat_natCast, Nat.zero_add, List.take_length, List.drop_zero, and_self, setB_len, true_and, and_true, heldI_cf, cf_length, take_cf]
                try dsimp only [go_sem, Nat.reduceAdd, Nat.reduceMul, Nat.reduceSub, Nat.reduceBEq, Nat.reduceLeDiff, Nat.reduceEqDiff, ↓dreduceIte, toG, tb6_15, tb6_17, tb6_18, tb6_19, tb6_20, tb6_21, conEqI, conHeldI, conJoin, conMarkI, conToI]
                try simp (disch := omega) only [guardP_T, guardP_pos, iteN, look, look0, rd_toNat, wrap64, Int.toNat_natCast, Nat.zero_add, List.take_length, List.drop_zero, and_self, setB_len, true_and, and_true, heldI_cf, cf_length, take_cf]
                with_reducible refine hR _ ?_)
           clear hR R)
        | (with_reducible refine kon_g_run ?_ ?_
           · dsimp only [nth] <;> with_reducible rfl)
        | (with_reducible refine kon_g_skip ?_ ?_
           · dsimp only [nth, not_t', not_f'] <;> with_reducible rfl
           dsimp only [go_sem])
        | (with_reducible refine kon_g_undef ?_ ?_
           · dsimp only [nth] <;> with_reducible rfl
           dsimp only [go_sem])
        | (with_reducible refine kon_g fun R hR => ?_
           dsimp only [go_sem, Nat.reduceAdd, Nat.reduceMul, Nat.reduceSub, Nat.reduceBEq, Nat.reduceLeDiff, Nat.reduceEqDiff, ↓dreduceIte, toG, tb6_15, tb6_17, tb6_18, tb6_19, tb6_20, tb6_21, conEqI, conHeldI, conJoin, conMarkI, conToI]
           split <;> (rename_i hb; with_reducible refine hR _ ?_; clear hR R; simp only [hb]; simp only [decide_eq_true_eq, decide_eq_false_iff_not, beq_iff_eq, beq_eq_false_iff_ne, bne_iff_ne, bne_eq_false_iff_eq, Bool.not_eq_true, Bool.not_eq_false, Bool.not_eq_eq_eq_not, Bool.not_true, Bool.not_false, ne_eq, Int.not_lt, Int.not_le, eq_self, not_true_eq_false, not_false_eq_true, decide_true, decide_false, Bool.and_eq_true, Bool.or_eq_true, Bool.and_eq_false_iff, Bool.or_eq_false_iff, gt_iff_lt, ge_iff_le, Bool.false_eq_true, Bool.true_eq_false, reduceCtorEq, or_false, false_or, or_true, true_or, false_and, and_false, heldI_cf, cf_length, take_cf] at hb; try (exfalso; omega)))
        | (with_reducible refine kon_cond fun R1 R2 h1 h2 => ?_
           dsimp only [go_sem]
           first
             | (with_reducible refine h1 ?_; clear h1 h2 R1 R2)
             | (with_reducible refine h2 ?_; clear h1 h2 R1 R2)
             | (split <;> rename_i hb <;> first
                 | (with_reducible refine h1 ?_; clear h1 h2 R1 R2; try simp only [hb]; try simp only [decide_eq_true_eq, decide_eq_false_iff_not, beq_iff_eq, beq_eq_false_iff_ne, bne_iff_ne, bne_eq_false_iff_eq, Bool.not_eq_true, Bool.not_eq_false, Bool.not_eq_eq_eq_not, Bool.not_true, Bool.not_false, ne_eq, Int.not_lt, Int.not_le, eq_self, not_true_eq_false, not_false_eq_true, decide_true, decide_false, Bool.and_eq_true, Bool.or_eq_true, Bool.and_eq_false_iff, Bool.or_eq_false_iff, gt_iff_lt, ge_iff_le, Bool.false_eq_true, Bool.true_eq_false, reduceCtorEq, or_false, false_or, or_true, true_or, false_and, and_false, heldI_cf, cf_length, take_cf] at hb; try (exfalso; omega))
                 | (with_reducible refine h2 ?_; clear h1 h2 R1 R2; try simp only [hb]; try simp only [decide_eq_true_eq, decide_eq_false_iff_not, beq_iff_eq, beq_eq_false_iff_ne, bne_iff_ne, bne_eq_false_iff_eq, Bool.not_eq_true, Bool.not_eq_false, Bool.not_eq_eq_eq_not, Bool.not_true, Bool.not_false, ne_eq, Int.not_lt, Int.not_le, eq_self, not_true_eq_false, not_false_eq_true, decide_true, decide_false, Bool.and_eq_true, Bool.or_eq_true, Bool.and_eq_false_iff, Bool.or_eq_false_iff, gt_iff_lt, ge_iff_le, Bool.false_eq_true, Bool.true_eq_false, reduceCtorEq, or_false, false_or, or_true, true_or, false_and, and_false, heldI_cf, cf_length, take_cf] at hb; try (exfalso; omega))))
      all_goals first
        | (dsimp only [kon]
           with_reducible refine hQ _ _ _ ?_
           dsimp only [kon, endQ, af6, conLawCuts, go_sem, Nat.reduceAdd, Nat.reduceMul, Nat.reduceSub, Nat.reduceBEq, Nat.reduceLeDiff, Nat.reduceEqDiff, ↓dreduceIte, toG, tb6_15, tb6_17, tb6_18, tb6_19, tb6_20, tb6_21, conEqI, conHeldI, conJoin, conMarkI, conToI]
           try simp (disch := omega) only [guardP_T, guardP_pos, iteN, look, look0, rd_toNat, wrap64, Int.toNat_natCast, Nat.zero_add, List.take_length, List.drop_zero, and_self, setB_len, true_and, and_true]
           try dsimp only [go_sem, Nat.reduceAdd, Nat.reduceMul, Nat.reduceSub, Nat.reduceBEq, Nat.reduceLeDiff, Nat.reduceEqDiff, ↓dreduceIte, toG, tb6_15, tb6_17, tb6_18, tb6_19, tb6_20, tb6_21, conEqI, conHeldI, conJoin, conMarkI, conToI])
        | skip
      all_goals try first
        | omega
        | (simp; done)
        | (simp; omega)
      all_goals rfl
    · simp at h'

end Go.Proofs.Ytbiefokigponpaa
