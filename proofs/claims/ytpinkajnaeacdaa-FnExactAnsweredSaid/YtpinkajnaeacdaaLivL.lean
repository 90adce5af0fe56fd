/- Who lives, and how many mails came: the laws. -/
import Derived.Test.YtpinkajnaeacdaaLivA
namespace Go.Proofs.Ytpinkajnaeacdaa
set_option linter.unusedVariables false
set_option linter.unusedSimpArgs false
set_option linter.unnecessarySimpa false

def conLawR : Con := ⟨[.imm .rcd], .v, fun as => match as with
  | [.sl .rcd _] => some (.bool true, [])
  | _ => none⟩

theorem livN_length (l : List Rec) : (livN l).length ≤ 6 := by
  unfold livN
  split
  · exact livGo_length l 6
  · simp

def tb7 : Tab := fun f => match f with
  | 15 => some conSzRecS
  | 17 => some conToRecS
  | 19 => some conEqRecS
  | 27 => some conLiving
  | 28 => some conLiving
  | 29 => some conEqI
  | 30 => some conMarkRecS
  | 31 => some conMarkI
  | 32 => some conHeldI
  | _ => none

theorem tb7_15 : tb7 15 = some conSzRecS := rfl
theorem tb7_17 : tb7 17 = some conToRecS := rfl
theorem tb7_19 : tb7 19 = some conEqRecS := rfl
theorem tb7_27 : tb7 27 = some conLiving := rfl
theorem tb7_28 : tb7 28 = some conLiving := rfl
theorem tb7_29 : tb7 29 = some conEqI := rfl
theorem tb7_30 : tb7 30 = some conMarkRecS := rfl
theorem tb7_31 : tb7 31 = some conMarkI := rfl
theorem tb7_32 : tb7 32 = some conHeldI := rfl

-- loop.example/g00678/laws.FnExactLiving hows []
def af7 : AF := ⟨69, [.t 2],
  .seq (.reg [⟨some 2, .mv (.b false), none⟩])
  (.seq (.reg [⟨some 3, .mv (.i 1048576), none⟩])
  (.seq (.reg [⟨some 11, .mv (.t 0), none⟩,
    ⟨some 12, .mv (.t 3), none⟩,
    ⟨some 13, .call 15 [(.t 11), (.t 12)], none⟩,
    ⟨some 3, .mv (.t 13), none⟩])
  (.seq (.seq (.reg [⟨some 14, .mv (.t 3), none⟩,
    ⟨some 15, .bin .lss (.t 14) (.i 0), none⟩])
  (.cond (.t 15)
    (.seq (.reg [⟨some 2, .mv (.b true), none⟩])
    (.ret))
    (.skip)))
  (.seq (.reg [⟨some 16, .mv (.t 0), none⟩,
    ⟨some 17, .call 17 [(.t 16)], none⟩,
    ⟨some 18, .call 27 [(.t 17)], none⟩,
    ⟨some 4, .mv (.t 18), none⟩])
  (.seq (.reg [⟨some 19, .mv (.t 0), none⟩,
    ⟨some 20, .call 17 [(.t 19)], none⟩,
    ⟨some 5, .mv (.t 20), none⟩])
  (.seq (.reg [⟨some 21, .mv (.t 5), none⟩,
    ⟨some 22, .call 28 [(.t 21)], none⟩,
    ⟨some 6, .mv (.t 22), none⟩])
  (.seq (.seq (.reg [⟨some 23, .mv (.t 6), none⟩,
    ⟨some 24, .mv (.t 4), none⟩,
    ⟨some 25, .call 29 [(.t 23), (.t 24)], none⟩,
    ⟨some 26, .un .not (.t 25), none⟩])
  (.cond (.t 26)
    (.seq (.reg [⟨some 2, .mv (.b false), none⟩])
    (.ret))
    (.skip)))
  (.seq (.seq (.reg [⟨some 27, .mv (.t 5), none⟩,
    ⟨some 28, .mv (.t 0), none⟩,
    ⟨some 29, .call 17 [(.t 28)], none⟩,
    ⟨some 30, .call 19 [(.t 27), (.t 29)], none⟩,
    ⟨some 31, .un .not (.t 30), none⟩])
  (.cond (.t 31)
    (.seq (.reg [⟨some 2, .mv (.b false), none⟩])
    (.ret))
    (.skip)))
  (.seq (.reg [⟨some 7, .mv (.i 1), none⟩])
  (.seq (.reg [⟨some 32, .mv (.t 5), none⟩,
    ⟨some 33, .mv (.t 7), none⟩,
    ⟨some 34, .call 30 [(.t 32), (.t 33)], none⟩,
    ⟨some 7, .mv (.t 34), none⟩])
  (.seq (.seq (.reg [⟨some 35, .mv (.t 7), none⟩,
    ⟨some 36, .bin .lss (.t 35) (.i 0), none⟩,
    ⟨some 37, .mv (.t 36), none⟩,
    ⟨some 38, .mv (.t 6), some (37, false)⟩,
    ⟨some 39, .mv (.t 4), some (37, false)⟩,
    ⟨some 40, .call 29 [(.t 38), (.t 39)], some (37, false)⟩,
    ⟨some 41, .un .not (.t 40), some (37, false)⟩,
    ⟨some 42, .pick (.t 37) (.b true) (.t 41), none⟩])
  (.cond (.t 42)
    (.seq (.reg [⟨some 2, .mv (.b false), none⟩])
    (.ret))
    (.skip)))
  (.seq (.reg [⟨some 8, .mv (.i 1), none⟩])
  (.seq (.reg [⟨some 43, .mv (.t 6), none⟩,
    ⟨some 44, .mv (.t 8), none⟩,
    ⟨some 45, .call 31 [(.t 43), (.t 44)], none⟩,
    ⟨some 8, .mv (.t 45), none⟩])
  (.seq (.reg [⟨some 9, .mv (.i 1), none⟩])
  (.seq (.reg [⟨some 46, .mv (.t 6), none⟩,
    ⟨some 47, .mv (.t 9), none⟩,
    ⟨some 48, .call 32 [(.t 46), (.t 47)], none⟩,
    ⟨some 9, .mv (.t 48), none⟩])
  (.seq (.seq (.reg [⟨some 49, .mv (.t 9), none⟩,
    ⟨some 50, .bin .lss (.t 49) (.i 0), none⟩])
  (.cond (.t 50)
    (.seq (.reg [⟨some 2, .mv (.b false), none⟩])
    (.ret))
    (.skip)))
  (.seq (.seq (.reg [⟨some 51, .mv (.t 9), none⟩,
    ⟨some 52, .mv (.t 8), none⟩,
    ⟨some 53, .bin .neq (.t 51) (.t 52), none⟩])
  (.cond (.t 53)
    (.seq (.reg [⟨some 2, .mv (.b false), none⟩])
    (.ret))
    (.skip)))
  (.seq (.reg [⟨some 54, .mv (.t 0), none⟩,
    ⟨some 55, .call 17 [(.t 54)], none⟩,
    ⟨some 56, .call 28 [(.t 55)], none⟩,
    ⟨some 10, .mv (.t 56), none⟩])
  (.seq (.seq (.reg [⟨some 57, .mv (.t 10), none⟩,
    ⟨some 58, .mv (.t 4), none⟩,
    ⟨some 59, .call 29 [(.t 57), (.t 58)], none⟩,
    ⟨some 60, .un .not (.t 59), none⟩])
  (.cond (.t 60)
    (.seq (.reg [⟨some 2, .mv (.b false), none⟩])
    (.ret))
    (.skip)))
  (.seq (.reg [⟨some 9, .mv (.i 1), none⟩])
  (.seq (.reg [⟨some 61, .mv (.t 6), none⟩,
    ⟨some 62, .mv (.t 9), none⟩,
    ⟨some 63, .call 32 [(.t 61), (.t 62)], none⟩,
    ⟨some 9, .mv (.t 63), none⟩])
  (.seq (.seq (.reg [⟨some 64, .mv (.t 9), none⟩,
    ⟨some 65, .bin .lss (.t 64) (.i 0), none⟩])
  (.cond (.t 65)
    (.seq (.reg [⟨some 2, .mv (.b false), none⟩])
    (.ret))
    (.skip)))
  (.seq (.seq (.reg [⟨some 66, .mv (.t 9), none⟩,
    ⟨some 67, .mv (.t 8), none⟩,
    ⟨some 68, .bin .neq (.t 66) (.t 67), none⟩])
  (.cond (.t 68)
    (.seq (.reg [⟨some 2, .mv (.b false), none⟩])
    (.ret))
    (.skip)))
  (.seq (.reg [⟨some 2, .mv (.b true), none⟩])
  (.ret)))))))))))))))))))))))))⟩

set_option maxHeartbeats 4000000 in
theorem does7 (as : List AV) (hok : ok 64 as) : Does tb7 af7 conLawR as := by
  cases h : (conLawR).run as with
  | none => exact does_none h
  | some out =>
    have h' := h
    simp only [conLawR] at h'
    split at h'
    · rename_i l
      have hln := livN_length l
      simp only [Option.some.injEq] at h'
      subst h'
      have hmo : (most : Int) = 1099511627776 := rfl
      have hml : (maxLen : Int) = 9223372036854775807 := rfl
      with_reducible refine does_by h fun Q hQ => ?_
      clear h
      dsimp only [af7, conLawR, go_sem, Nat.reduceAdd, Nat.reduceMul, Nat.reduceSub, Nat.reduceBEq, Nat.reduceLeDiff, Nat.reduceEqDiff, ↓dreduceIte, toG, tb7_15, tb7_17, tb7_19, tb7_27, tb7_28, tb7_29, tb7_30, tb7_31, tb7_32, conEqI, conEqRecS, conHeldI, conLiving, conMarkI, conMarkRecS, conSzRecS, conToRecS]
      repeat' first
        | with_reducible refine kon_seq ?_
        | with_reducible refine kon_nil ?_
        | with_reducible refine kon_skip ?_
        | with_reducible refine kon_block ?_
        | with_reducible refine kon_ret ?_
        | with_reducible refine kon_exit ?_
        | with_reducible refine kon_past_ret ?_
        | with_reducible refine kon_past_exit ?_
        | with_reducible refine kon_blk_ret ?_
        | with_reducible refine kon_blk_end ?_
        | with_reducible refine kon_blk_exit ?_
        | (with_reducible refine kon_blk_past ?_ ?_
           · decide)
        | with_reducible refine loop_exit ?_
        | with_reducible refine loop_ret ?_
        | with_reducible refine mid_exit ?_
        | with_reducible refine mid_ret ?_
        | (with_reducible refine kon_bin fun R hR => ?_
           dsimp only [go_sem, Nat.reduceAdd, Nat.reduceMul, Nat.reduceSub, Nat.reduceBEq, Nat.reduceLeDiff, Nat.reduceEqDiff, ↓dreduceIte, toG, tb7_15, tb7_17, tb7_19, tb7_27, tb7_28, tb7_29, tb7_30, tb7_31, tb7_32, conEqI, conEqRecS, conHeldI, conLiving, conMarkI, conMarkRecS, conSzRecS, conToRecS]
           try simp (disch := first | omega | (simp only [List.length_set, List.length_append, List.length_cons, List.length_nil, List.length_replicate]; omega)) only [guardP_T, guardP_pos, iteN, rd_set, List.set_set, List.length_set, eta_fact, eta_rumor, eta_doubt, eta_item, eta_rec, eta_due, look, look0, rd_toNat, wrap64, Int.toNat_natCast, Nat.zero_add, List.take_length, List.drop_zero, and_self, setB_len, true_and, and_true, szN_lt, szN_ge, heldI_cf, cf_length, take_cf]
           with_reducible refine hR _ ?_
           clear hR R)
        | (with_reducible refine kon_conv fun R hR => ?_
           dsimp only [go_sem, Nat.reduceAdd, Nat.reduceMul, Nat.reduceSub, Nat.reduceBEq, Nat.reduceLeDiff, Nat.reduceEqDiff, ↓dreduceIte, toG, tb7_15, tb7_17, tb7_19, tb7_27, tb7_28, tb7_29, tb7_30, tb7_31, tb7_32, conEqI, conEqRecS, conHeldI, conLiving, conMarkI, conMarkRecS, conSzRecS, conToRecS]
           try simp (disch := first | omega | (simp only [List.length_set, List.length_append, List.length_cons, List.length_nil, List.length_replicate]; omega)) only [guardP_T, guardP_pos, iteN, rd_set, List.set_set, List.length_set, eta_fact, eta_rumor, eta_doubt, eta_item, eta_rec, eta_due, look, look0, rd_toNat, wrap64, Int.toNat_natCast, Nat.zero_add, List.take_length, List.drop_zero, and_self, setB_len, true_and, and_true, szN_lt, szN_ge, heldI_cf, cf_length, take_cf]
           with_reducible refine hR _ ?_
           clear hR R)
        | (with_reducible refine kon_ins fun R hR => ?_
           dsimp only [go_sem, Nat.reduceAdd, Nat.reduceMul, Nat.reduceSub, Nat.reduceBEq, Nat.reduceLeDiff, Nat.reduceEqDiff, ↓dreduceIte, toG, tb7_15, tb7_17, tb7_19, tb7_27, tb7_28, tb7_29, tb7_30, tb7_31, tb7_32, conEqI, conEqRecS, conHeldI, conLiving, conMarkI, conMarkRecS, conSzRecS, conToRecS]
           first
             | with_reducible refine hR _ ?_
             | (simp (disch := first | omega | (simp only [List.length_set, List.length_append, List.length_cons, List.length_nil, List.length_replicate]; omega)) only [guardP_T, guardP_pos, iteN, rd_set, List.set_set, List.length_set, eta_fact, eta_rumor, eta_doubt, eta_item, eta_rec, eta_due, look, look0, rd_toNat, wrap64, Int.toNat_natCast, Nat.zero_add, List.take_length, List.drop_zero, and_self, setB_len, true_and, and_true, szN_lt, szN_ge, heldI_cf, cf_length, take_cf]
                try dsimp only [go_sem, Nat.reduceAdd, Nat.reduceMul, Nat.reduceSub, Nat.reduceBEq, Nat.reduceLeDiff, Nat.reduceEqDiff, ↓dreduceIte, toG, tb7_15, tb7_17, tb7_19, tb7_27, tb7_28, tb7_29, tb7_30, tb7_31, tb7_32, conEqI, conEqRecS, conHeldI, conLiving, conMarkI, conMarkRecS, conSzRecS, conToRecS]
                try simp (disch := first | omega | (simp only [List.length_set, List.length_append, List.length_cons, List.length_nil, List.length_replicate]; omega)) only [guardP_T, guardP_pos, iteN, rd_set, List.set_set, List.length_set, eta_fact, eta_rumor, eta_doubt, eta_item, eta_rec, eta_due, look, look0, rd_toNat, wrap64, Int.toNat_natCast, Nat.zero_add, List.take_length, List.drop_zero, and_self, setB_len, true_and, and_true, szN_lt, szN_ge, heldI_cf, cf_length, take_cf]
                with_reducible refine hR _ ?_)
           clear hR R)
        | (with_reducible refine kon_g_run ?_ ?_
           · dsimp only [nth] <;> with_reducible rfl)
        | (with_reducible refine kon_g_skip ?_ ?_
           · dsimp only [nth, not_t', not_f'] <;> with_reducible rfl
           dsimp only [go_sem])
        | (with_reducible refine kon_g_undef ?_ ?_
           · dsimp only [nth] <;> with_reducible rfl
           dsimp only [go_sem])
        | (with_reducible refine kon_g fun R hR => ?_
           dsimp only [go_sem, Nat.reduceAdd, Nat.reduceMul, Nat.reduceSub, Nat.reduceBEq, Nat.reduceLeDiff, Nat.reduceEqDiff, ↓dreduceIte, toG, tb7_15, tb7_17, tb7_19, tb7_27, tb7_28, tb7_29, tb7_30, tb7_31, tb7_32, conEqI, conEqRecS, conHeldI, conLiving, conMarkI, conMarkRecS, conSzRecS, conToRecS]
           split <;> (rename_i hb; with_reducible refine hR _ ?_; clear hR R; try simp only [hb]; try simp only [decide_eq_true_eq, decide_eq_false_iff_not, beq_iff_eq, beq_eq_false_iff_ne, bne_iff_ne, bne_eq_false_iff_eq, Bool.not_eq_true, Bool.not_eq_false, Bool.not_eq_eq_eq_not, Bool.not_true, Bool.not_false, ne_eq, Int.not_lt, Int.not_le, eq_self, not_true_eq_false, not_false_eq_true, decide_true, decide_false, Bool.and_eq_true, Bool.or_eq_true, Bool.and_eq_false_iff, Bool.or_eq_false_iff, gt_iff_lt, ge_iff_le, Bool.false_eq_true, Bool.true_eq_false, reduceCtorEq, or_false, false_or, or_true, true_or, false_and, and_false, szN_lt, szN_ge, heldI_cf, cf_length, take_cf] at hb; try (exfalso; omega)))
        | (with_reducible refine kon_cond fun R1 R2 h1 h2 => ?_
           dsimp only [go_sem]
           first
             | (with_reducible refine h1 ?_; clear h1 h2 R1 R2)
             | (with_reducible refine h2 ?_; clear h1 h2 R1 R2)
             | (split <;> rename_i hb <;> first
                 | (with_reducible refine h1 ?_; clear h1 h2 R1 R2; try simp only [hb]; try simp only [decide_eq_true_eq, decide_eq_false_iff_not, beq_iff_eq, beq_eq_false_iff_ne, bne_iff_ne, bne_eq_false_iff_eq, Bool.not_eq_true, Bool.not_eq_false, Bool.not_eq_eq_eq_not, Bool.not_true, Bool.not_false, ne_eq, Int.not_lt, Int.not_le, eq_self, not_true_eq_false, not_false_eq_true, decide_true, decide_false, Bool.and_eq_true, Bool.or_eq_true, Bool.and_eq_false_iff, Bool.or_eq_false_iff, gt_iff_lt, ge_iff_le, Bool.false_eq_true, Bool.true_eq_false, reduceCtorEq, or_false, false_or, or_true, true_or, false_and, and_false, szN_lt, szN_ge, heldI_cf, cf_length, take_cf] at hb; try (exfalso; omega))
                 | (with_reducible refine h2 ?_; clear h1 h2 R1 R2; try simp only [hb]; try simp only [decide_eq_true_eq, decide_eq_false_iff_not, beq_iff_eq, beq_eq_false_iff_ne, bne_iff_ne, bne_eq_false_iff_eq, Bool.not_eq_true, Bool.not_eq_false, Bool.not_eq_eq_eq_not, Bool.not_true, Bool.not_false, ne_eq, Int.not_lt, Int.not_le, eq_self, not_true_eq_false, not_false_eq_true, decide_true, decide_false, Bool.and_eq_true, Bool.or_eq_true, Bool.and_eq_false_iff, Bool.or_eq_false_iff, gt_iff_lt, ge_iff_le, Bool.false_eq_true, Bool.true_eq_false, reduceCtorEq, or_false, false_or, or_true, true_or, false_and, and_false, szN_lt, szN_ge, heldI_cf, cf_length, take_cf] at hb; try (exfalso; omega))))
      all_goals first
        | (dsimp only [kon]
           with_reducible refine hQ _ _ _ ?_
           dsimp only [kon, endQ, af7, conLawR, go_sem, Nat.reduceAdd, Nat.reduceMul, Nat.reduceSub, Nat.reduceBEq, Nat.reduceLeDiff, Nat.reduceEqDiff, ↓dreduceIte, toG, tb7_15, tb7_17, tb7_19, tb7_27, tb7_28, tb7_29, tb7_30, tb7_31, tb7_32, conEqI, conEqRecS, conHeldI, conLiving, conMarkI, conMarkRecS, conSzRecS, conToRecS]
           try simp (disch := first | omega | (simp only [List.length_set, List.length_append, List.length_cons, List.length_nil, List.length_replicate]; omega)) only [guardP_T, guardP_pos, iteN, rd_set, List.set_set, List.length_set, eta_fact, eta_rumor, eta_doubt, eta_item, eta_rec, eta_due, look, look0, rd_toNat, wrap64, Int.toNat_natCast, Nat.zero_add, List.take_length, List.drop_zero, and_self, setB_len, true_and, and_true]
           try dsimp only [go_sem, Nat.reduceAdd, Nat.reduceMul, Nat.reduceSub, Nat.reduceBEq, Nat.reduceLeDiff, Nat.reduceEqDiff, ↓dreduceIte, toG, tb7_15, tb7_17, tb7_19, tb7_27, tb7_28, tb7_29, tb7_30, tb7_31, tb7_32, conEqI, conEqRecS, conHeldI, conLiving, conMarkI, conMarkRecS, conSzRecS, conToRecS])
        | skip
      all_goals try first
        | omega
        | (simp; done)
        | (simp; omega)
      all_goals rfl
    · simp at h'

def tb3 : Tab := fun f => match f with
  | 15 => some conSzRecS
  | 16 => some conAns
  | 17 => some conToRecS
  | 18 => some conAns
  | 19 => some conEqRecS
  | _ => none

theorem tb3_15 : tb3 15 = some conSzRecS := rfl
theorem tb3_16 : tb3 16 = some conAns := rfl
theorem tb3_17 : tb3 17 = some conToRecS := rfl
theorem tb3_18 : tb3 18 = some conAns := rfl
theorem tb3_19 : tb3 19 = some conEqRecS := rfl

-- loop.example/g00678/laws.FnExactAnswered hows []
def af3 : AF := ⟨27, [.t 2],
  .seq (.reg [⟨some 2, .mv (.b false), none⟩])
  (.seq (.reg [⟨some 3, .mv (.i 1048576), none⟩])
  (.seq (.reg [⟨some 7, .mv (.t 0), none⟩,
    ⟨some 8, .mv (.t 3), none⟩,
    ⟨some 9, .call 15 [(.t 7), (.t 8)], none⟩,
    ⟨some 3, .mv (.t 9), none⟩])
  (.seq (.seq (.reg [⟨some 10, .mv (.t 3), none⟩,
    ⟨some 11, .bin .lss (.t 10) (.i 0), none⟩])
  (.cond (.t 11)
    (.seq (.reg [⟨some 2, .mv (.b true), none⟩])
    (.ret))
    (.skip)))
  (.seq (.reg [⟨some 12, .mv (.t 0), none⟩,
    ⟨some 13, .call 17 [(.t 12)], none⟩,
    ⟨some 14, .call 16 [(.t 13)], none⟩,
    ⟨some 4, .mv (.t 14), none⟩])
  (.seq (.reg [⟨some 15, .mv (.t 0), none⟩,
    ⟨some 16, .call 17 [(.t 15)], none⟩,
    ⟨some 5, .mv (.t 16), none⟩])
  (.seq (.reg [⟨some 17, .mv (.t 5), none⟩,
    ⟨some 18, .call 18 [(.t 17)], none⟩,
    ⟨some 6, .mv (.t 18), none⟩])
  (.seq (.seq (.reg [⟨some 19, .mv (.t 6), none⟩,
    ⟨some 20, .mv (.t 4), none⟩,
    ⟨some 21, .bin .neq (.t 19) (.t 20), none⟩])
  (.cond (.t 21)
    (.seq (.reg [⟨some 2, .mv (.b false), none⟩])
    (.ret))
    (.skip)))
  (.seq (.seq (.reg [⟨some 22, .mv (.t 5), none⟩,
    ⟨some 23, .mv (.t 0), none⟩,
    ⟨some 24, .call 17 [(.t 23)], none⟩,
    ⟨some 25, .call 19 [(.t 22), (.t 24)], none⟩,
    ⟨some 26, .un .not (.t 25), none⟩])
  (.cond (.t 26)
    (.seq (.reg [⟨some 2, .mv (.b false), none⟩])
    (.ret))
    (.skip)))
  (.seq (.reg [⟨some 2, .mv (.b true), none⟩])
  (.ret))))))))))⟩

set_option maxHeartbeats 4000000 in
theorem does3 (as : List AV) (hok : ok 64 as) : Does tb3 af3 conLawR as := by
  cases h : (conLawR).run as with
  | none => exact does_none h
  | some out =>
    have h' := h
    simp only [conLawR] at h'
    split at h'
    · rename_i l
      simp only [Option.some.injEq] at h'
      subst h'
      have hmo : (most : Int) = 1099511627776 := rfl
      have hml : (maxLen : Int) = 9223372036854775807 := rfl
      with_reducible refine does_by h fun Q hQ => ?_
      clear h
      dsimp only [af3, conLawR, go_sem, Nat.reduceAdd, Nat.reduceMul, Nat.reduceSub, Nat.reduceBEq, Nat.reduceLeDiff, Nat.reduceEqDiff, ↓dreduceIte, toG, tb3_15, tb3_16, tb3_17, tb3_18, tb3_19, conAns, conEqRecS, conSzRecS, conToRecS]
      repeat' first
        | with_reducible refine kon_seq ?_
        | with_reducible refine kon_nil ?_
        | with_reducible refine kon_skip ?_
        | with_reducible refine kon_block ?_
        | with_reducible refine kon_ret ?_
        | with_reducible refine kon_exit ?_
        | with_reducible refine kon_past_ret ?_
        | with_reducible refine kon_past_exit ?_
        | with_reducible refine kon_blk_ret ?_
        | with_reducible refine kon_blk_end ?_
        | with_reducible refine kon_blk_exit ?_
        | (with_reducible refine kon_blk_past ?_ ?_
           · decide)
        | with_reducible refine loop_exit ?_
        | with_reducible refine loop_ret ?_
        | with_reducible refine mid_exit ?_
        | with_reducible refine mid_ret ?_
        | (with_reducible refine kon_bin fun R hR => ?_
           dsimp only [go_sem, Nat.reduceAdd, Nat.reduceMul, Nat.reduceSub, Nat.reduceBEq, Nat.reduceLeDiff, Nat.reduceEqDiff, ↓dreduceIte, toG, tb3_15, tb3_16, tb3_17, tb3_18, tb3_19, conAns, conEqRecS, conSzRecS, conToRecS]
           try simp (disch := first | omega | (simp only [List.length_set, List.length_append, List.length_cons, List.length_nil, List.length_replicate]; omega)) only [guardP_T, guardP_pos, iteN, rd_set, List.set_set, List.length_set, eta_fact, eta_rumor, eta_doubt, eta_item, eta_rec, eta_due, look, look0, rd_toNat, wrap64, Int.toNat_natCast, Nat.zero_add, List.take_length, List.drop_zero, and_self, setB_len, true_and, and_true, szN_lt, szN_ge]
           with_reducible refine hR _ ?_
           clear hR R)
        | (with_reducible refine kon_conv fun R hR => ?_
           dsimp only [go_sem, Nat.reduceAdd, Nat.reduceMul, Nat.reduceSub, Nat.reduceBEq, Nat.reduceLeDiff, Nat.reduceEqDiff, ↓dreduceIte, toG, tb3_15, tb3_16, tb3_17, tb3_18, tb3_19, conAns, conEqRecS, conSzRecS, conToRecS]
           try simp (disch := first | omega | (simp only [List.length_set, List.length_append, List.length_cons, List.length_nil, List.length_replicate]; omega)) only [guardP_T, guardP_pos, iteN, rd_set, List.set_set, List.length_set, eta_fact, eta_rumor, eta_doubt, eta_item, eta_rec, eta_due, look, look0, rd_toNat, wrap64, Int.toNat_natCast, Nat.zero_add, List.take_length, List.drop_zero, and_self, setB_len, true_and, and_true, szN_lt, szN_ge]
           with_reducible refine hR _ ?_
           clear hR R)
        | (with_reducible refine kon_ins fun R hR => ?_
           dsimp only [go_sem, Nat.reduceAdd, Nat.reduceMul, Nat.reduceSub, Nat.reduceBEq, Nat.reduceLeDiff, Nat.reduceEqDiff, ↓dreduceIte, toG, tb3_15, tb3_16, tb3_17, tb3_18, tb3_19, conAns, conEqRecS, conSzRecS, conToRecS]
           first
             | with_reducible refine hR _ ?_
             | (simp (disch := first | omega | (simp only [List.length_set, List.length_append, List.length_cons, List.length_nil, List.length_replicate]; omega)) only [guardP_T, guardP_pos, iteN, rd_set, List.set_set, List.length_set, eta_fact, eta_rumor, eta_doubt, eta_item, eta_rec, eta_due, look, look0, rd_toNat, wrap64, Int.toNat_natCast, Nat.zero_add, List.take_length, List.drop_zero, and_self, setB_len, true_and, and_true, szN_lt, szN_ge]
                try dsimp only [go_sem, Nat.reduceAdd, Nat.reduceMul, Nat.reduceSub, Nat.reduceBEq, Nat.reduceLeDiff, Nat.reduceEqDiff, ↓dreduceIte, toG, tb3_15, tb3_16, tb3_17, tb3_18, tb3_19, conAns, conEqRecS, conSzRecS, conToRecS]
                try simp (disch := first | omega | (simp only [List.length_set, List.length_append, List.length_cons, List.length_nil, List.length_replicate]; omega)) only [guardP_T, guardP_pos, iteN, rd_set, List.set_set, List.length_set, eta_fact, eta_rumor, eta_doubt, eta_item, eta_rec, eta_due, look, look0, rd_toNat, wrap64, Int.toNat_natCast, Nat.zero_add, List.take_length, List.drop_zero, and_self, setB_len, true_and, and_true, szN_lt, szN_ge]
                with_reducible refine hR _ ?_)
           clear hR R)
        | (with_reducible refine kon_g_run ?_ ?_
           · dsimp only [nth] <;> with_reducible rfl)
        | (with_reducible refine kon_g_skip ?_ ?_
           · dsimp only [nth, not_t', not_f'] <;> with_reducible rfl
           dsimp only [go_sem])
        | (with_reducible refine kon_g_undef ?_ ?_
           · dsimp only [nth] <;> with_reducible rfl
           dsimp only [go_sem])
        | (with_reducible refine kon_g fun R hR => ?_
           dsimp only [go_sem, Nat.reduceAdd, Nat.reduceMul, Nat.reduceSub, Nat.reduceBEq, Nat.reduceLeDiff, Nat.reduceEqDiff, ↓dreduceIte, toG, tb3_15, tb3_16, tb3_17, tb3_18, tb3_19, conAns, conEqRecS, conSzRecS, conToRecS]
           split <;> (rename_i hb; with_reducible refine hR _ ?_; clear hR R; try simp only [hb]; try simp only [decide_eq_true_eq, decide_eq_false_iff_not, beq_iff_eq, beq_eq_false_iff_ne, bne_iff_ne, bne_eq_false_iff_eq, Bool.not_eq_true, Bool.not_eq_false, Bool.not_eq_eq_eq_not, Bool.not_true, Bool.not_false, ne_eq, Int.not_lt, Int.not_le, eq_self, not_true_eq_false, not_false_eq_true, decide_true, decide_false, Bool.and_eq_true, Bool.or_eq_true, Bool.and_eq_false_iff, Bool.or_eq_false_iff, gt_iff_lt, ge_iff_le, Bool.false_eq_true, Bool.true_eq_false, reduceCtorEq, or_false, false_or, or_true, true_or, false_and, and_false, szN_lt, szN_ge] at hb; try (exfalso; omega)))
        | (with_reducible refine kon_cond fun R1 R2 h1 h2 => ?_
           dsimp only [go_sem]
           first
             | (with_reducible refine h1 ?_; clear h1 h2 R1 R2)
             | (with_reducible refine h2 ?_; clear h1 h2 R1 R2)
             | (split <;> rename_i hb <;> first
                 | (with_reducible refine h1 ?_; clear h1 h2 R1 R2; try simp only [hb]; try simp only [decide_eq_true_eq, decide_eq_false_iff_not, beq_iff_eq, beq_eq_false_iff_ne, bne_iff_ne, bne_eq_false_iff_eq, Bool.not_eq_true, Bool.not_eq_false, Bool.not_eq_eq_eq_not, Bool.not_true, Bool.not_false, ne_eq, Int.not_lt, Int.not_le, eq_self, not_true_eq_false, not_false_eq_true, decide_true, decide_false, Bool.and_eq_true, Bool.or_eq_true, Bool.and_eq_false_iff, Bool.or_eq_false_iff, gt_iff_lt, ge_iff_le, Bool.false_eq_true, Bool.true_eq_false, reduceCtorEq, or_false, false_or, or_true, true_or, false_and, and_false, szN_lt, szN_ge] at hb; try (exfalso; omega))
                 | (with_reducible refine h2 ?_; clear h1 h2 R1 R2; try simp only [hb]; try simp only [decide_eq_true_eq, decide_eq_false_iff_not, beq_iff_eq, beq_eq_false_iff_ne, bne_iff_ne, bne_eq_false_iff_eq, Bool.not_eq_true, Bool.not_eq_false, Bool.not_eq_eq_eq_not, Bool.not_true, Bool.not_false, ne_eq, Int.not_lt, Int.not_le, eq_self, not_true_eq_false, not_false_eq_true, decide_true, decide_false, Bool.and_eq_true, Bool.or_eq_true, Bool.and_eq_false_iff, Bool.or_eq_false_iff, gt_iff_lt, ge_iff_le, Bool.false_eq_true, Bool.true_eq_false, reduceCtorEq, or_false, false_or, or_true, true_or, false_and, and_false, szN_lt, szN_ge] at hb; try (exfalso; omega))))
      all_goals first
        | (dsimp only [kon]
           with_reducible refine hQ _ _ _ ?_
           dsimp only [kon, endQ, af3, conLawR, go_sem, Nat.reduceAdd, Nat.reduceMul, Nat.reduceSub, Nat.reduceBEq, Nat.reduceLeDiff, Nat.reduceEqDiff, ↓dreduceIte, toG, tb3_15, tb3_16, tb3_17, tb3_18, tb3_19, conAns, conEqRecS, conSzRecS, conToRecS]
           try simp (disch := first | omega | (simp only [List.length_set, List.length_append, List.length_cons, List.length_nil, List.length_replicate]; omega)) only [guardP_T, guardP_pos, iteN, rd_set, List.set_set, List.length_set, eta_fact, eta_rumor, eta_doubt, eta_item, eta_rec, eta_due, look, look0, rd_toNat, wrap64, Int.toNat_natCast, Nat.zero_add, List.take_length, List.drop_zero, and_self, setB_len, true_and, and_true]
           try dsimp only [go_sem, Nat.reduceAdd, Nat.reduceMul, Nat.reduceSub, Nat.reduceBEq, Nat.reduceLeDiff, Nat.reduceEqDiff, ↓dreduceIte, toG, tb3_15, tb3_16, tb3_17, tb3_18, tb3_19, conAns, conEqRecS, conSzRecS, conToRecS])
        | skip
      all_goals try first
        | omega
        | (simp; done)
        | (simp; omega)
      all_goals rfl
    · simp at h'

end Go.Proofs.Ytpinkajnaeacdaa
