/- Who is ahead of whom: the laws. -/
import Derived.Test.YtpinkajnaeacdaaPastE
namespace Go.Proofs.Ytpinkajnaeacdaa
set_option linter.unusedVariables false
set_option linter.unusedSimpArgs false
set_option linter.unnecessarySimpa false

def conLawRII : Con := ⟨[.imm .rcd, .v, .v], .v, fun as => match as with
  | [.sl .rcd _, .int .i64 _, .int .i64 _] => some (.bool true, [])
  | _ => none⟩

def conLawRI : Con := ⟨[.imm .rcd, .v], .v, fun as => match as with
  | [.sl .rcd _, .int .i64 _] => some (.bool true, [])
  | _ => none⟩

def tb5 : Tab := fun f => match f with
  | 15 => some conSzRecS
  | 17 => some conToRecS
  | 19 => some conEqRecS
  | 23 => some conAhead
  | 24 => some conAhead
  | _ => none

theorem tb5_15 : tb5 15 = some conSzRecS := rfl
theorem tb5_17 : tb5 17 = some conToRecS := rfl
theorem tb5_19 : tb5 19 = some conEqRecS := rfl
theorem tb5_23 : tb5 23 = some conAhead := rfl
theorem tb5_24 : tb5 24 = some conAhead := rfl

-- loop.example/g00678/laws.FnExactAhead hows []
def af5 : AF := ⟨35, [.t 6],
  .seq (.reg [⟨some 6, .mv (.b false), none⟩])
  (.seq (.reg [⟨some 7, .mv (.i 1048576), none⟩])
  (.seq (.reg [⟨some 11, .mv (.t 0), none⟩,
    ⟨some 12, .mv (.t 7), none⟩,
    ⟨some 13, .call 15 [(.t 11), (.t 12)], none⟩,
    ⟨some 7, .mv (.t 13), none⟩])
  (.seq (.seq (.reg [⟨some 14, .mv (.t 7), none⟩,
    ⟨some 15, .bin .lss (.t 14) (.i 0), none⟩])
  (.cond (.t 15)
    (.seq (.reg [⟨some 6, .mv (.b true), none⟩])
    (.ret))
    (.skip)))
  (.seq (.reg [⟨some 16, .mv (.t 0), none⟩,
    ⟨some 17, .call 17 [(.t 16)], none⟩,
    ⟨some 18, .mv (.t 1), none⟩,
    ⟨some 19, .mv (.t 2), none⟩,
    ⟨some 20, .call 23 [(.t 17), (.t 18), (.t 19)], none⟩,
    ⟨some 8, .mv (.t 20), none⟩])
  (.seq (.reg [⟨some 21, .mv (.t 0), none⟩,
    ⟨some 22, .call 17 [(.t 21)], none⟩,
    ⟨some 9, .mv (.t 22), none⟩])
  (.seq (.reg [⟨some 23, .mv (.t 9), none⟩,
    ⟨some 24, .mv (.t 1), none⟩,
    ⟨some 25, .mv (.t 2), none⟩,
    ⟨some 26, .call 24 [(.t 23), (.t 24), (.t 25)], none⟩,
    ⟨some 10, .mv (.t 26), none⟩])
  (.seq (.seq (.reg [⟨some 27, .mv (.t 10), none⟩,
    ⟨some 28, .mv (.t 8), none⟩,
    ⟨some 29, .eqb true (.t 27) (.t 28), none⟩])
  (.cond (.t 29)
    (.seq (.reg [⟨some 6, .mv (.b false), none⟩])
    (.ret))
    (.skip)))
  (.seq (.seq (.reg [⟨some 30, .mv (.t 9), none⟩,
    ⟨some 31, .mv (.t 0), none⟩,
    ⟨some 32, .call 17 [(.t 31)], none⟩,
    ⟨some 33, .call 19 [(.t 30), (.t 32)], none⟩,
    ⟨some 34, .un .not (.t 33), none⟩])
  (.cond (.t 34)
    (.seq (.reg [⟨some 6, .mv (.b false), none⟩])
    (.ret))
    (.skip)))
  (.seq (.reg [⟨some 6, .mv (.b true), none⟩])
  (.ret))))))))))⟩

set_option maxHeartbeats 4000000 in
theorem does5 (as : List AV) (hok : ok 64 as) : Does tb5 af5 conLawRII as := by
  cases h : (conLawRII).run as with
  | none => exact does_none h
  | some out =>
    have h' := h
    simp only [conLawRII] at h'
    split at h'
    · rename_i l i j
      simp only [Option.some.injEq] at h'
      subst h'
      have hmo : (most : Int) = 1099511627776 := rfl
      have hml : (maxLen : Int) = 9223372036854775807 := rfl
      with_reducible refine does_by h fun Q hQ => ?_
      clear h
      dsimp only [af5, conLawRII, go_sem, Nat.reduceAdd, Nat.reduceMul, Nat.reduceSub, Nat.reduceBEq, Nat.reduceLeDiff, Nat.reduceEqDiff, ↓dreduceIte, toG, tb5_15, tb5_17, tb5_19, tb5_23, tb5_24, conAhead, conEqRecS, conSzRecS, conToRecS]
      repeat' first
        | with_reducible refine kon_seq ?_
        | with_reducible refine kon_nil ?_
        | with_reducible refine kon_skip ?_
        | with_reducible refine kon_block ?_
        | with_reducible refine kon_ret ?_
        | with_reducible refine kon_exit ?_
        | with_reducible refine kon_past_ret ?_
        | with_reducible refine kon_past_exit ?_
        | with_reducible refine kon_blk_ret ?_
        | with_reducible refine kon_blk_end ?_
        | with_reducible refine kon_blk_exit ?_
        | (with_reducible refine kon_blk_past ?_ ?_
           · decide)
        | with_reducible refine loop_exit ?_
        | with_reducible refine loop_ret ?_
        | with_reducible refine mid_exit ?_
        | with_reducible refine mid_ret ?_
        | (with_reducible refine kon_bin fun R hR => ?_
           dsimp only [go_sem, Nat.reduceAdd, Nat.reduceMul, Nat.reduceSub, Nat.reduceBEq, Nat.reduceLeDiff, Nat.reduceEqDiff, ↓dreduceIte, toG, tb5_15, tb5_17, tb5_19, tb5_23, tb5_24, conAhead, conEqRecS, conSzRecS, conToRecS]
           try simp (disch := first | omega | (simp only [List.length_set, List.length_append, List.length_cons, List.length_nil, List.length_replicate]; omega)) only [guardP_T, guardP_pos, iteN, rd_set, List.set_set, List.length_set, eta_fact, eta_rumor, eta_doubt, eta_item, eta_rec, eta_due, look, look0, rd_toNat, wrap64, Int.toNat_natCast, Nat.zero_add, List.take_length, List.drop_zero, and_self, setB_len, true_and, and_true, szN_lt, szN_ge]
           with_reducible refine hR _ ?_
           clear hR R)
        | (with_reducible refine kon_conv fun R hR => ?_
           dsimp only [go_sem, Nat.reduceAdd, Nat.reduceMul, Nat.reduceSub, Nat.reduceBEq, Nat.reduceLeDiff, Nat.reduceEqDiff, ↓dreduceIte, toG, tb5_15, tb5_17, tb5_19, tb5_23, tb5_24, conAhead, conEqRecS, conSzRecS, conToRecS]
           try simp (disch := first | omega | (simp only [List.length_set, List.length_append, List.length_cons, List.length_nil, List.length_replicate]; omega)) only [guardP_T, guardP_pos, iteN, rd_set, List.set_set, List.length_set, eta_fact, eta_rumor, eta_doubt, eta_item, eta_rec, eta_due, look, look0, rd_toNat, wrap64, Int.toNat_natCast, Nat.zero_add, List.take_length, List.drop_zero, and_self, setB_len, true_and, and_true, szN_lt, szN_ge]
           with_reducible refine hR _ ?_
           clear hR R)
        | (with_reducible refine kon_ins fun R hR => ?_
           dsimp only [go_sem, Nat.reduceAdd, Nat.reduceMul, Nat.reduceSub, Nat.reduceBEq, Nat.reduceLeDiff, Nat.reduceEqDiff, ↓dreduceIte, toG, tb5_15, tb5_17, tb5_19, tb5_23, tb5_24, conAhead, conEqRecS, conSzRecS, conToRecS]
           first
             | with_reducible refine hR _ ?_
             | (simp (disch := first | omega | (simp only [List.length_set, List.length_append, List.length_cons, List.length_nil, List.length_replicate]; omega)) only [guardP_T, guardP_pos, iteN, rd_set, List.set_set, List.length_set, eta_fact, eta_rumor, eta_doubt, eta_item, eta_rec, eta_due, look, look0, rd_toNat, wrap64, Int.toNat_natCast, Nat.zero_add, List.take_length, List.drop_zero, and_self, setB_len, true_and, and_true, szN_lt, szN_ge]
                try dsimp only [go_sem, Nat.reduceAdd, Nat.reduceMul, Nat.reduceSub, Nat.reduceBEq, Nat.reduceLeDiff, Nat.reduceEqDiff, ↓dreduceIte, toG, tb5_15, tb5_17, tb5_19, tb5_23, tb5_24, conAhead, conEqRecS, conSzRecS, conToRecS]
                try simp (disch := first | omega | (simp only [List.length_set, List.length_append, List.length_cons, List.length_nil, List.length_replicate]; omega)) only [guardP_T, guardP_pos, iteN, rd_set, List.set_set, List.length_set, eta_fact, eta_rumor, eta_doubt, eta_item, eta_rec, eta_due, look, look0, rd_toNat, wrap64, Int.toNat_natCast, Nat.zero_add, List.take_length, List.drop_zero, and_self, setB_len, true_and, and_true, szN_lt, szN_ge]
                with_reducible refine hR _ ?_)
           clear hR R)
        | (with_reducible refine kon_g_run ?_ ?_
           · dsimp only [nth] <;> with_reducible rfl)
        | (with_reducible refine kon_g_skip ?_ ?_
           · dsimp only [nth, not_t', not_f'] <;> with_reducible rfl
           dsimp only [go_sem])
        | (with_reducible refine kon_g_undef ?_ ?_
           · dsimp only [nth] <;> with_reducible rfl
           dsimp only [go_sem])
        | (with_reducible refine kon_g fun R hR => ?_
           dsimp only [go_sem, Nat.reduceAdd, Nat.reduceMul, Nat.reduceSub, Nat.reduceBEq, Nat.reduceLeDiff, Nat.reduceEqDiff, ↓dreduceIte, toG, tb5_15, tb5_17, tb5_19, tb5_23, tb5_24, conAhead, conEqRecS, conSzRecS, conToRecS]
           split <;> (rename_i hb; with_reducible refine hR _ ?_; clear hR R; try simp only [hb]; try simp only [decide_eq_true_eq, decide_eq_false_iff_not, beq_iff_eq, beq_eq_false_iff_ne, bne_iff_ne, bne_eq_false_iff_eq, Bool.not_eq_true, Bool.not_eq_false, Bool.not_eq_eq_eq_not, Bool.not_true, Bool.not_false, ne_eq, Int.not_lt, Int.not_le, eq_self, not_true_eq_false, not_false_eq_true, decide_true, decide_false, Bool.and_eq_true, Bool.or_eq_true, Bool.and_eq_false_iff, Bool.or_eq_false_iff, gt_iff_lt, ge_iff_le, Bool.false_eq_true, Bool.true_eq_false, reduceCtorEq, or_false, false_or, or_true, true_or, false_and, and_false, szN_lt, szN_ge] at hb; try (exfalso; omega)))
        | (with_reducible refine kon_cond fun R1 R2 h1 h2 => ?_
           dsimp only [go_sem]
           first
             | (with_reducible refine h1 ?_; clear h1 h2 R1 R2)
             | (with_reducible refine h2 ?_; clear h1 h2 R1 R2)
             | (split <;> rename_i hb <;> first
                 | (with_reducible refine h1 ?_; clear h1 h2 R1 R2; try simp only [hb]; try simp only [decide_eq_true_eq, decide_eq_false_iff_not, beq_iff_eq, beq_eq_false_iff_ne, bne_iff_ne, bne_eq_false_iff_eq, Bool.not_eq_true, Bool.not_eq_false, Bool.not_eq_eq_eq_not, Bool.not_true, Bool.not_false, ne_eq, Int.not_lt, Int.not_le, eq_self, not_true_eq_false, not_false_eq_true, decide_true, decide_false, Bool.and_eq_true, Bool.or_eq_true, Bool.and_eq_false_iff, Bool.or_eq_false_iff, gt_iff_lt, ge_iff_le, Bool.false_eq_true, Bool.true_eq_false, reduceCtorEq, or_false, false_or, or_true, true_or, false_and, and_false, szN_lt, szN_ge] at hb; try (exfalso; omega))
                 | (with_reducible refine h2 ?_; clear h1 h2 R1 R2; try simp only [hb]; try simp only [decide_eq_true_eq, decide_eq_false_iff_not, beq_iff_eq, beq_eq_false_iff_ne, bne_iff_ne, bne_eq_false_iff_eq, Bool.not_eq_true, Bool.not_eq_false, Bool.not_eq_eq_eq_not, Bool.not_true, Bool.not_false, ne_eq, Int.not_lt, Int.not_le, eq_self, not_true_eq_false, not_false_eq_true, decide_true, decide_false, Bool.and_eq_true, Bool.or_eq_true, Bool.and_eq_false_iff, Bool.or_eq_false_iff, gt_iff_lt, ge_iff_le, Bool.false_eq_true, Bool.true_eq_false, reduceCtorEq, or_false, false_or, or_true, true_or, false_and, and_false, szN_lt, szN_ge] at hb; try (exfalso; omega))))
      all_goals first
        | (dsimp only [kon]
           with_reducible refine hQ _ _ _ ?_
           dsimp only [kon, endQ, af5, conLawRII, go_sem, Nat.reduceAdd, Nat.reduceMul, Nat.reduceSub, Nat.reduceBEq, Nat.reduceLeDiff, Nat.reduceEqDiff, ↓dreduceIte, toG, tb5_15, tb5_17, tb5_19, tb5_23, tb5_24, conAhead, conEqRecS, conSzRecS, conToRecS]
           try simp (disch := first | omega | (simp only [List.length_set, List.length_append, List.length_cons, List.length_nil, List.length_replicate]; omega)) only [guardP_T, guardP_pos, iteN, rd_set, List.set_set, List.length_set, eta_fact, eta_rumor, eta_doubt, eta_item, eta_rec, eta_due, look, look0, rd_toNat, wrap64, Int.toNat_natCast, Nat.zero_add, List.take_length, List.drop_zero, and_self, setB_len, true_and, and_true]
           try dsimp only [go_sem, Nat.reduceAdd, Nat.reduceMul, Nat.reduceSub, Nat.reduceBEq, Nat.reduceLeDiff, Nat.reduceEqDiff, ↓dreduceIte, toG, tb5_15, tb5_17, tb5_19, tb5_23, tb5_24, conAhead, conEqRecS, conSzRecS, conToRecS])
        | skip
      all_goals try first
        | omega
        | (simp; done)
        | (simp; omega)
      all_goals rfl
    · simp at h'

def tb6 : Tab := fun f => match f with
  | 15 => some conSzRecS
  | 17 => some conToRecS
  | 19 => some conEqRecS
  | 25 => some conBeside
  | 26 => some conBeside
  | _ => none

theorem tb6_15 : tb6 15 = some conSzRecS := rfl
theorem tb6_17 : tb6 17 = some conToRecS := rfl
theorem tb6_19 : tb6 19 = some conEqRecS := rfl
theorem tb6_25 : tb6 25 = some conBeside := rfl
theorem tb6_26 : tb6 26 = some conBeside := rfl

-- loop.example/g00678/laws.FnExactBeside hows []
def af6 : AF := ⟨35, [.t 6],
  .seq (.reg [⟨some 6, .mv (.b false), none⟩])
  (.seq (.reg [⟨some 7, .mv (.i 1048576), none⟩])
  (.seq (.reg [⟨some 11, .mv (.t 0), none⟩,
    ⟨some 12, .mv (.t 7), none⟩,
    ⟨some 13, .call 15 [(.t 11), (.t 12)], none⟩,
    ⟨some 7, .mv (.t 13), none⟩])
  (.seq (.seq (.reg [⟨some 14, .mv (.t 7), none⟩,
    ⟨some 15, .bin .lss (.t 14) (.i 0), none⟩])
  (.cond (.t 15)
    (.seq (.reg [⟨some 6, .mv (.b true), none⟩])
    (.ret))
    (.skip)))
  (.seq (.reg [⟨some 16, .mv (.t 0), none⟩,
    ⟨some 17, .call 17 [(.t 16)], none⟩,
    ⟨some 18, .mv (.t 1), none⟩,
    ⟨some 19, .mv (.t 2), none⟩,
    ⟨some 20, .call 25 [(.t 17), (.t 18), (.t 19)], none⟩,
    ⟨some 8, .mv (.t 20), none⟩])
  (.seq (.reg [⟨some 21, .mv (.t 0), none⟩,
    ⟨some 22, .call 17 [(.t 21)], none⟩,
    ⟨some 9, .mv (.t 22), none⟩])
  (.seq (.reg [⟨some 23, .mv (.t 9), none⟩,
    ⟨some 24, .mv (.t 1), none⟩,
    ⟨some 25, .mv (.t 2), none⟩,
    ⟨some 26, .call 26 [(.t 23), (.t 24), (.t 25)], none⟩,
    ⟨some 10, .mv (.t 26), none⟩])
  (.seq (.seq (.reg [⟨some 27, .mv (.t 10), none⟩,
    ⟨some 28, .mv (.t 8), none⟩,
    ⟨some 29, .eqb true (.t 27) (.t 28), none⟩])
  (.cond (.t 29)
    (.seq (.reg [⟨some 6, .mv (.b false), none⟩])
    (.ret))
    (.skip)))
  (.seq (.seq (.reg [⟨some 30, .mv (.t 9), none⟩,
    ⟨some 31, .mv (.t 0), none⟩,
    ⟨some 32, .call 17 [(.t 31)], none⟩,
    ⟨some 33, .call 19 [(.t 30), (.t 32)], none⟩,
    ⟨some 34, .un .not (.t 33), none⟩])
  (.cond (.t 34)
    (.seq (.reg [⟨some 6, .mv (.b false), none⟩])
    (.ret))
    (.skip)))
  (.seq (.reg [⟨some 6, .mv (.b true), none⟩])
  (.ret))))))))))⟩

set_option maxHeartbeats 4000000 in
theorem does6 (as : List AV) (hok : ok 64 as) : Does tb6 af6 conLawRII as := by
  cases h : (conLawRII).run as with
  | none => exact does_none h
  | some out =>
    have h' := h
    simp only [conLawRII] at h'
    split at h'
    · rename_i l i j
      simp only [Option.some.injEq] at h'
      subst h'
      have hmo : (most : Int) = 1099511627776 := rfl
      have hml : (maxLen : Int) = 9223372036854775807 := rfl
      with_reducible refine does_by h fun Q hQ => ?_
      clear h
      dsimp only [af6, conLawRII, go_sem, Nat.reduceAdd, Nat.reduceMul, Nat.reduceSub, Nat.reduceBEq, Nat.reduceLeDiff, Nat.reduceEqDiff, ↓dreduceIte, toG, tb6_15, tb6_17, tb6_19, tb6_25, tb6_26, conBeside, conEqRecS, conSzRecS, conToRecS]
      repeat' first
        | with_reducible refine kon_seq ?_
        | with_reducible refine kon_nil ?_
        | with_reducible refine kon_skip ?_
        | with_reducible refine kon_block ?_
        | with_reducible refine kon_ret ?_
        | with_reducible refine kon_exit ?_
        | with_reducible refine kon_past_ret ?_
        | with_reducible refine kon_past_exit ?_
        | with_reducible refine kon_blk_ret ?_
        | with_reducible refine kon_blk_end ?_
        | with_reducible refine kon_blk_exit ?_
        | (with_reducible refine kon_blk_past ?_ ?_
           · decide)
        | with_reducible refine loop_exit ?_
        | with_reducible refine loop_ret ?_
        | with_reducible refine mid_exit ?_
        | with_reducible refine mid_ret ?_
        | (with_reducible refine kon_bin fun R hR => ?_
           dsimp only [go_sem, Nat.reduceAdd, Nat.reduceMul, Nat.reduceSub, Nat.reduceBEq, Nat.reduceLeDiff, Nat.reduceEqDiff, ↓dreduceIte, toG, tb6_15, tb6_17, tb6_19, tb6_25, tb6_26, conBeside, conEqRecS, conSzRecS, conToRecS]
           try simp (disch := first | omega | (simp only [List.length_set, List.length_append, List.length_cons, List.length_nil, List.length_replicate]; omega)) only [guardP_T, guardP_pos, iteN, rd_set, List.set_set, List.length_set, eta_fact, eta_rumor, eta_doubt, eta_item, eta_rec, eta_due, look, look0, rd_toNat, wrap64, Int.toNat_natCast, Nat.zero_add, List.take_length, List.drop_zero, and_self, setB_len, true_and, and_true, szN_lt, szN_ge]
           with_reducible refine hR _ ?_
           clear hR R)
        | (with_reducible refine kon_conv fun R hR => ?_
           dsimp only [go_sem, Nat.reduceAdd, Nat.reduceMul, Nat.reduceSub, Nat.reduceBEq, Nat.reduceLeDiff, Nat.reduceEqDiff, ↓dreduceIte, toG, tb6_15, tb6_17, tb6_19, tb6_25, tb6_26, conBeside, conEqRecS, conSzRecS, conToRecS]
           try simp (disch := first | omega | (simp only [List.length_set, List.length_append, List.length_cons, List.length_nil, List.length_replicate]; omega)) only [guardP_T, guardP_pos, iteN, rd_set, List.set_set, List.length_set, eta_fact, eta_rumor, eta_doubt, eta_item, eta_rec, eta_due, look, look0, rd_toNat, wrap64, Int.toNat_natCast, Nat.zero_add, List.take_length, List.drop_zero, and_self, setB_len, true_and, and_true, szN_lt, szN_ge]
           with_reducible refine hR _ ?_
           clear hR R)
        | (with_reducible refine kon_ins fun R hR => ?_
           dsimp only [go_sem, Nat.reduceAdd, Nat.reduceMul, Nat.reduceSub, Nat.reduceBEq, Nat.reduceLeDiff, Nat.reduceEqDiff, ↓dreduceIte, toG, tb6_15, tb6_17, tb6_19, tb6_25, tb6_26, conBeside, conEqRecS, conSzRecS, conToRecS]
           first
             | with_reducible refine hR _ ?_
             | (simp (disch := first | omega | (simp only [List.length_set, List.length_append, List.length_cons, List.length_nil, List.length_replicate]; omega)) only [guardP_T, guardP_pos, iteN, rd_set, List.set_set, List.length_set, eta_fact, eta_rumor, eta_doubt, eta_item, eta_rec, eta_due, look, look0, rd_toNat, wrap64, Int.toNat_natCast, Nat.zero_add, List.take_length, List.drop_zero, and_self, setB_len, true_and, and_true, szN_lt, szN_ge]
                try dsimp only [go_sem, Nat.reduceAdd, Nat.reduceMul, Nat.reduceSub, Nat.reduceBEq, Nat.reduceLeDiff, Nat.reduceEqDiff, ↓dreduceIte, toG, tb6_15, tb6_17, tb6_19, tb6_25, tb6_26, conBeside, conEqRecS, conSzRecS, conToRecS]
                try simp (disch := first | omega | (simp only [List.length_set, List.length_append, List.length_cons, List.length_nil, List.length_replicate]; omega)) only [guardP_T, guardP_pos, iteN, rd_set, List.set_set, List.length_set, eta_fact, eta_rumor, eta_doubt, eta_item, eta_rec, eta_due, look, look0, rd_toNat, wrap64, Int.toNat_natCast, Nat.zero_add, List.take_length, List.drop_zero, and_self, setB_len, true_and, and_true, szN_lt, szN_ge]
                with_reducible refine hR _ ?_)
           clear hR R)
        | (with_reducible refine kon_g_run ?_ ?_
           · dsimp only [nth] <;> with_reducible rfl)
        | (with_reducible refine kon_g_skip ?_ ?_
           · dsimp only [nth, not_t', not_f'] <;> with_reducible rfl
           dsimp only [go_sem])
        | (with_reducible refine kon_g_undef ?_ ?_
           · dsimp only [nth] <;> with_reducible rfl
           dsimp only [go_sem])
        | (with_reducible refine kon_g fun R hR => ?_
           dsimp only [go_sem, Nat.reduceAdd, Nat.reduceMul, Nat.reduceSub, Nat.reduceBEq, Nat.reduceLeDiff, Nat.reduceEqDiff, ↓dreduceIte, toG, tb6_15, tb6_17, tb6_19, tb6_25, tb6_26, conBeside, conEqRecS, conSzRecS, conToRecS]
           split <;> (rename_i hb; with_reducible refine hR _ ?_; clear hR R; try simp only [hb]; try simp only [decide_eq_true_eq, decide_eq_false_iff_not, beq_iff_eq, beq_eq_false_iff_ne, bne_iff_ne, bne_eq_false_iff_eq, Bool.not_eq_true, Bool.not_eq_false, Bool.not_eq_eq_eq_not, Bool.not_true, Bool.not_false, ne_eq, Int.not_lt, Int.not_le, eq_self, not_true_eq_false, not_false_eq_true, decide_true, decide_false, Bool.and_eq_true, Bool.or_eq_true, Bool.and_eq_false_iff, Bool.or_eq_false_iff, gt_iff_lt, ge_iff_le, Bool.false_eq_true, Bool.true_eq_false, reduceCtorEq, or_false, false_or, or_true, true_or, false_and, and_false, szN_lt, szN_ge] at hb; try (exfalso; omega)))
        | (with_reducible refine kon_cond fun R1 R2 h1 h2 => ?_
           dsimp only [go_sem]
           first
             | (with_reducible refine h1 ?_; clear h1 h2 R1 R2)
             | (with_reducible refine h2 ?_; clear h1 h2 R1 R2)
             | (split <;> rename_i hb <;> first
                 | (with_reducible refine h1 ?_; clear h1 h2 R1 R2; try simp only [hb]; try simp only [decide_eq_true_eq, decide_eq_false_iff_not, beq_iff_eq, beq_eq_false_iff_ne, bne_iff_ne, bne_eq_false_iff_eq, Bool.not_eq_true, Bool.not_eq_false, Bool.not_eq_eq_eq_not, Bool.not_true, Bool.not_false, ne_eq, Int.not_lt, Int.not_le, eq_self, not_true_eq_false, not_false_eq_true, decide_true, decide_false, Bool.and_eq_true, Bool.or_eq_true, Bool.and_eq_false_iff, Bool.or_eq_false_iff, gt_iff_lt, ge_iff_le, Bool.false_eq_true, Bool.true_eq_false, reduceCtorEq, or_false, false_or, or_true, true_or, false_and, and_false, szN_lt, szN_ge] at hb; try (exfalso; omega))
                 | (with_reducible refine h2 ?_; clear h1 h2 R1 R2; try simp only [hb]; try simp only [decide_eq_true_eq, decide_eq_false_iff_not, beq_iff_eq, beq_eq_false_iff_ne, bne_iff_ne, bne_eq_false_iff_eq, Bool.not_eq_true, Bool.not_eq_false, Bool.not_eq_eq_eq_not, Bool.not_true, Bool.not_false, ne_eq, Int.not_lt, Int.not_le, eq_self, not_true_eq_false, not_false_eq_true, decide_true, decide_false, Bool.and_eq_true, Bool.or_eq_true, Bool.and_eq_false_iff, Bool.or_eq_false_iff, gt_iff_lt, ge_iff_le, Bool.false_eq_true, Bool.true_eq_false, reduceCtorEq, or_false, false_or, or_true, true_or, false_and, and_false, szN_lt, szN_ge] at hb; try (exfalso; omega))))
      all_goals first
        | (dsimp only [kon]
           with_reducible refine hQ _ _ _ ?_
           dsimp only [kon, endQ, af6, conLawRII, go_sem, Nat.reduceAdd, Nat.reduceMul, Nat.reduceSub, Nat.reduceBEq, Nat.reduceLeDiff, Nat.reduceEqDiff, ↓dreduceIte, toG, tb6_15, tb6_17, tb6_19, tb6_25, tb6_26, conBeside, conEqRecS, conSzRecS, conToRecS]
           try simp (disch := first | omega | (simp only [List.length_set, List.length_append, List.length_cons, List.length_nil, List.length_replicate]; omega)) only [guardP_T, guardP_pos, iteN, rd_set, List.set_set, List.length_set, eta_fact, eta_rumor, eta_doubt, eta_item, eta_rec, eta_due, look, look0, rd_toNat, wrap64, Int.toNat_natCast, Nat.zero_add, List.take_length, List.drop_zero, and_self, setB_len, true_and, and_true]
           try dsimp only [go_sem, Nat.reduceAdd, Nat.reduceMul, Nat.reduceSub, Nat.reduceBEq, Nat.reduceLeDiff, Nat.reduceEqDiff, ↓dreduceIte, toG, tb6_15, tb6_17, tb6_19, tb6_25, tb6_26, conBeside, conEqRecS, conSzRecS, conToRecS])
        | skip
      all_goals try first
        | omega
        | (simp; done)
        | (simp; omega)
      all_goals rfl
    · simp at h'

def tb10 : Tab := fun f => match f with
  | 15 => some conSzRecS
  | 17 => some conToRecS
  | 19 => some conEqRecS
  | 29 => some conEqI
  | 30 => some conMarkRecS
  | 31 => some conMarkI
  | 32 => some conHeldI
  | 37 => some conPastOf
  | 38 => some conPastOf
  | _ => none

theorem tb10_15 : tb10 15 = some conSzRecS := rfl
theorem tb10_17 : tb10 17 = some conToRecS := rfl
theorem tb10_19 : tb10 19 = some conEqRecS := rfl
theorem tb10_29 : tb10 29 = some conEqI := rfl
theorem tb10_30 : tb10 30 = some conMarkRecS := rfl
theorem tb10_31 : tb10 31 = some conMarkI := rfl
theorem tb10_32 : tb10 32 = some conHeldI := rfl
theorem tb10_37 : tb10 37 = some conPastOf := rfl
theorem tb10_38 : tb10 38 = some conPastOf := rfl

-- loop.example/g00678/laws.FnExactPastOf hows []
def af10 : AF := ⟨74, [.t 4],
  .seq (.reg [⟨some 4, .mv (.b false), none⟩])
  (.seq (.reg [⟨some 5, .mv (.i 1048576), none⟩])
  (.seq (.reg [⟨some 13, .mv (.t 0), none⟩,
    ⟨some 14, .mv (.t 5), none⟩,
    ⟨some 15, .call 15 [(.t 13), (.t 14)], none⟩,
    ⟨some 5, .mv (.t 15), none⟩])
  (.seq (.seq (.reg [⟨some 16, .mv (.t 5), none⟩,
    ⟨some 17, .bin .lss (.t 16) (.i 0), none⟩])
  (.cond (.t 17)
    (.seq (.reg [⟨some 4, .mv (.b true), none⟩])
    (.ret))
    (.skip)))
  (.seq (.reg [⟨some 18, .mv (.t 0), none⟩,
    ⟨some 19, .call 17 [(.t 18)], none⟩,
    ⟨some 20, .mv (.t 1), none⟩,
    ⟨some 21, .call 37 [(.t 19), (.t 20)], none⟩,
    ⟨some 6, .mv (.t 21), none⟩])
  (.seq (.reg [⟨some 22, .mv (.t 0), none⟩,
    ⟨some 23, .call 17 [(.t 22)], none⟩,
    ⟨some 7, .mv (.t 23), none⟩])
  (.seq (.reg [⟨some 24, .mv (.t 7), none⟩,
    ⟨some 25, .mv (.t 1), none⟩,
    ⟨some 26, .call 38 [(.t 24), (.t 25)], none⟩,
    ⟨some 8, .mv (.t 26), none⟩])
  (.seq (.seq (.reg [⟨some 27, .mv (.t 8), none⟩,
    ⟨some 28, .mv (.t 6), none⟩,
    ⟨some 29, .call 29 [(.t 27), (.t 28)], none⟩,
    ⟨some 30, .un .not (.t 29), none⟩])
  (.cond (.t 30)
    (.seq (.reg [⟨some 4, .mv (.b false), none⟩])
    (.ret))
    (.skip)))
  (.seq (.seq (.reg [⟨some 31, .mv (.t 7), none⟩,
    ⟨some 32, .mv (.t 0), none⟩,
    ⟨some 33, .call 17 [(.t 32)], none⟩,
    ⟨some 34, .call 19 [(.t 31), (.t 33)], none⟩,
    ⟨some 35, .un .not (.t 34), none⟩])
  (.cond (.t 35)
    (.seq (.reg [⟨some 4, .mv (.b false), none⟩])
    (.ret))
    (.skip)))
  (.seq (.reg [⟨some 9, .mv (.i 1), none⟩])
  (.seq (.reg [⟨some 36, .mv (.t 7), none⟩,
    ⟨some 37, .mv (.t 9), none⟩,
    ⟨some 38, .call 30 [(.t 36), (.t 37)], none⟩,
    ⟨some 9, .mv (.t 38), none⟩])
  (.seq (.seq (.reg [⟨some 39, .mv (.t 9), none⟩,
    ⟨some 40, .bin .lss (.t 39) (.i 0), none⟩,
    ⟨some 41, .mv (.t 40), none⟩,
    ⟨some 42, .mv (.t 8), some (41, false)⟩,
    ⟨some 43, .mv (.t 6), some (41, false)⟩,
    ⟨some 44, .call 29 [(.t 42), (.t 43)], some (41, false)⟩,
    ⟨some 45, .un .not (.t 44), some (41, false)⟩,
    ⟨some 46, .pick (.t 41) (.b true) (.t 45), none⟩])
  (.cond (.t 46)
    (.seq (.reg [⟨some 4, .mv (.b false), none⟩])
    (.ret))
    (.skip)))
  (.seq (.reg [⟨some 10, .mv (.i 1), none⟩])
  (.seq (.reg [⟨some 47, .mv (.t 8), none⟩,
    ⟨some 48, .mv (.t 10), none⟩,
    ⟨some 49, .call 31 [(.t 47), (.t 48)], none⟩,
    ⟨some 10, .mv (.t 49), none⟩])
  (.seq (.reg [⟨some 11, .mv (.i 1), none⟩])
  (.seq (.reg [⟨some 50, .mv (.t 8), none⟩,
    ⟨some 51, .mv (.t 11), none⟩,
    ⟨some 52, .call 32 [(.t 50), (.t 51)], none⟩,
    ⟨some 11, .mv (.t 52), none⟩])
  (.seq (.seq (.reg [⟨some 53, .mv (.t 11), none⟩,
    ⟨some 54, .bin .lss (.t 53) (.i 0), none⟩])
  (.cond (.t 54)
    (.seq (.reg [⟨some 4, .mv (.b false), none⟩])
    (.ret))
    (.skip)))
  (.seq (.seq (.reg [⟨some 55, .mv (.t 11), none⟩,
    ⟨some 56, .mv (.t 10), none⟩,
    ⟨some 57, .bin .neq (.t 55) (.t 56), none⟩])
  (.cond (.t 57)
    (.seq (.reg [⟨some 4, .mv (.b false), none⟩])
    (.ret))
    (.skip)))
  (.seq (.reg [⟨some 58, .mv (.t 0), none⟩,
    ⟨some 59, .call 17 [(.t 58)], none⟩,
    ⟨some 60, .mv (.t 1), none⟩,
    ⟨some 61, .call 38 [(.t 59), (.t 60)], none⟩,
    ⟨some 12, .mv (.t 61), none⟩])
  (.seq (.seq (.reg [⟨some 62, .mv (.t 12), none⟩,
    ⟨some 63, .mv (.t 6), none⟩,
    ⟨some 64, .call 29 [(.t 62), (.t 63)], none⟩,
    ⟨some 65, .un .not (.t 64), none⟩])
  (.cond (.t 65)
    (.seq (.reg [⟨some 4, .mv (.b false), none⟩])
    (.ret))
    (.skip)))
  (.seq (.reg [⟨some 11, .mv (.i 1), none⟩])
  (.seq (.reg [⟨some 66, .mv (.t 8), none⟩,
    ⟨some 67, .mv (.t 11), none⟩,
    ⟨some 68, .call 32 [(.t 66), (.t 67)], none⟩,
    ⟨some 11, .mv (.t 68), none⟩])
  (.seq (.seq (.reg [⟨some 69, .mv (.t 11), none⟩,
    ⟨some 70, .bin .lss (.t 69) (.i 0), none⟩])
  (.cond (.t 70)
    (.seq (.reg [⟨some 4, .mv (.b false), none⟩])
    (.ret))
    (.skip)))
  (.seq (.seq (.reg [⟨some 71, .mv (.t 11), none⟩,
    ⟨some 72, .mv (.t 10), none⟩,
    ⟨some 73, .bin .neq (.t 71) (.t 72), none⟩])
  (.cond (.t 73)
    (.seq (.reg [⟨some 4, .mv (.b false), none⟩])
    (.ret))
    (.skip)))
  (.seq (.reg [⟨some 4, .mv (.b true), none⟩])
  (.ret)))))))))))))))))))))))))⟩

set_option maxHeartbeats 4000000 in
theorem does10 (as : List AV) (hok : ok 64 as) : Does tb10 af10 conLawRI as := by
  cases h : (conLawRI).run as with
  | none => exact does_none h
  | some out =>
    have h' := h
    simp only [conLawRI] at h'
    split at h'
    · rename_i l i
      have hln := pastL_length l i
      simp only [Option.some.injEq] at h'
      subst h'
      have hmo : (most : Int) = 1099511627776 := rfl
      have hml : (maxLen : Int) = 9223372036854775807 := rfl
      with_reducible refine does_by h fun Q hQ => ?_
      clear h
      dsimp only [af10, conLawRI, go_sem, Nat.reduceAdd, Nat.reduceMul, Nat.reduceSub, Nat.reduceBEq, Nat.reduceLeDiff, Nat.reduceEqDiff, ↓dreduceIte, toG, tb10_15, tb10_17, tb10_19, tb10_29, tb10_30, tb10_31, tb10_32, tb10_37, tb10_38, conEqI, conEqRecS, conHeldI, conMarkI, conMarkRecS, conPastOf, conSzRecS, conToRecS]
      repeat' first
        | with_reducible refine kon_seq ?_
        | with_reducible refine kon_nil ?_
        | with_reducible refine kon_skip ?_
        | with_reducible refine kon_block ?_
        | with_reducible refine kon_ret ?_
        | with_reducible refine kon_exit ?_
        | with_reducible refine kon_past_ret ?_
        | with_reducible refine kon_past_exit ?_
        | with_reducible refine kon_blk_ret ?_
        | with_reducible refine kon_blk_end ?_
        | with_reducible refine kon_blk_exit ?_
        | (with_reducible refine kon_blk_past ?_ ?_
           · decide)
        | with_reducible refine loop_exit ?_
        | with_reducible refine loop_ret ?_
        | with_reducible refine mid_exit ?_
        | with_reducible refine mid_ret ?_
        | (with_reducible refine kon_bin fun R hR => ?_
           dsimp only [go_sem, Nat.reduceAdd, Nat.reduceMul, Nat.reduceSub, Nat.reduceBEq, Nat.reduceLeDiff, Nat.reduceEqDiff, ↓dreduceIte, toG, tb10_15, tb10_17, tb10_19, tb10_29, tb10_30, tb10_31, tb10_32, tb10_37, tb10_38, conEqI, conEqRecS, conHeldI, conMarkI, conMarkRecS, conPastOf, conSzRecS, conToRecS]
           try simp (disch := first | omega | (simp only [List.length_set, List.length_append, List.length_cons, List.length_nil, List.length_replicate]; omega)) only [guardP_T, guardP_pos, iteN, rd_set, List.set_set, List.length_set, eta_fact, eta_rumor, eta_doubt, eta_item, eta_rec, eta_due, look, look0, rd_toNat, wrap64, Int.toNat_natCast, Nat.zero_add, List.take_length, List.drop_zero, and_self, setB_len, true_and, and_true, szN_lt, szN_ge, heldI_cf, cf_length, take_cf]
           with_reducible refine hR _ ?_
           clear hR R)
        | (with_reducible refine kon_conv fun R hR => ?_
           dsimp only [go_sem, Nat.reduceAdd, Nat.reduceMul, Nat.reduceSub, Nat.reduceBEq, Nat.reduceLeDiff, Nat.reduceEqDiff, ↓dreduceIte, toG, tb10_15, tb10_17, tb10_19, tb10_29, tb10_30, tb10_31, tb10_32, tb10_37, tb10_38, conEqI, conEqRecS, conHeldI, conMarkI, conMarkRecS, conPastOf, conSzRecS, conToRecS]
           try simp (disch := first | omega | (simp only [List.length_set, List.length_append, List.length_cons, List.length_nil, List.length_replicate]; omega)) only [guardP_T, guardP_pos, iteN, rd_set, List.set_set, List.length_set, eta_fact, eta_rumor, eta_doubt, eta_item, eta_rec, eta_due, look, look0, rd_toNat, wrap64, Int.toNat_natCast, Nat.zero_add, List.take_length, List.drop_zero, and_self, setB_len, true_and, and_true, szN_lt, szN_ge, heldI_cf, cf_length, take_cf]
           with_reducible refine hR _ ?_
           clear hR R)
        | (with_reducible refine kon_ins fun R hR => ?_
           dsimp only [go_sem, Nat.reduceAdd, Nat.reduceMul, Nat.reduceSub, Nat.reduceBEq, Nat.reduceLeDiff, Nat.reduceEqDiff, ↓dreduceIte, toG, tb10_15, tb10_17, tb10_19, tb10_29, tb10_30, tb10_31, tb10_32, tb10_37, tb10_38, conEqI, conEqRecS, conHeldI, conMarkI, conMarkRecS, conPastOf, conSzRecS, conToRecS]
           first
             | with_reducible refine hR _ ?_
             | (simp (disch := first | omega | (simp only [List.length_set, List.length_append, List.length_cons, List.length_nil, List.length_replicate]; omega)) only [guardP_T, guardP_pos, iteN, rd_set, List.set_set, List.length_set, eta_fact, eta_rumor, eta_doubt, eta_item, eta_rec, eta_due, look, look0, rd_toNat, wrap64, Int.toNat_natCast, Nat.zero_add, List.take_length, List.drop_zero, and_self, setB_len, true_and, and_true, szN_lt, szN_ge, heldI_cf, cf_length, take_cf]
                try dsimp only [go_sem, Nat.reduceAdd, Nat.reduceMul, Nat.reduceSub, Nat.reduceBEq, Nat.reduceLeDiff, Nat.reduceEqDiff, ↓dreduceIte, toG, tb10_15, tb10_17, tb10_19, tb10_29, tb10_30, tb10_31, tb10_32, tb10_37, tb10_38, conEqI, conEqRecS, conHeldI, conMarkI, conMarkRecS, conPastOf, conSzRecS, conToRecS]
                try simp (disch := first | omega | (simp only [List.length_set, List.length_append, List.length_cons, List.length_nil, List.length_replicate]; omega)) only [guardP_T, guardP_pos, iteN, rd_set, List.set_set, List.length_set, eta_fact, eta_rumor, eta_doubt, eta_item, eta_rec, eta_due, look, look0, rd_toNat, wrap64, Int.toNat_natCast, Nat.zero_add, List.take_length, List.drop_zero, and_self, setB_len, true_and, and_true, szN_lt, szN_ge, heldI_cf, cf_length, take_cf]
                with_reducible refine hR _ ?_)
           clear hR R)
        | (with_reducible refine kon_g_run ?_ ?_
           · dsimp only [nth] <;> with_reducible rfl)
        | (with_reducible refine kon_g_skip ?_ ?_
           · dsimp only [nth, not_t', not_f'] <;> with_reducible rfl
           dsimp only [go_sem])
        | (with_reducible refine kon_g_undef ?_ ?_
           · dsimp only [nth] <;> with_reducible rfl
           dsimp only [go_sem])
        | (with_reducible refine kon_g fun R hR => ?_
           dsimp only [go_sem, Nat.reduceAdd, Nat.reduceMul, Nat.reduceSub, Nat.reduceBEq, Nat.reduceLeDiff, Nat.reduceEqDiff, ↓dreduceIte, toG, tb10_15, tb10_17, tb10_19, tb10_29, tb10_30, tb10_31, tb10_32, tb10_37, tb10_38, conEqI, conEqRecS, conHeldI, conMarkI, conMarkRecS, conPastOf, conSzRecS, conToRecS]
           split <;> (rename_i hb; with_reducible refine hR _ ?_; clear hR R; try simp only [hb]; try simp only [decide_eq_true_eq, decide_eq_false_iff_not, beq_iff_eq, beq_eq_false_iff_ne, bne_iff_ne, bne_eq_false_iff_eq, Bool.not_eq_true, Bool.not_eq_false, Bool.not_eq_eq_eq_not, Bool.not_true, Bool.not_false, ne_eq, Int.not_lt, Int.not_le, eq_self, not_true_eq_false, not_false_eq_true, decide_true, decide_false, Bool.and_eq_true, Bool.or_eq_true, Bool.and_eq_false_iff, Bool.or_eq_false_iff, gt_iff_lt, ge_iff_le, Bool.false_eq_true, Bool.true_eq_false, reduceCtorEq, or_false, false_or, or_true, true_or, false_and, and_false, szN_lt, szN_ge, heldI_cf, cf_length, take_cf] at hb; try (exfalso; omega)))
        | (with_reducible refine kon_cond fun R1 R2 h1 h2 => ?_
           dsimp only [go_sem]
           first
             | (with_reducible refine h1 ?_; clear h1 h2 R1 R2)
             | (with_reducible refine h2 ?_; clear h1 h2 R1 R2)
             | (split <;> rename_i hb <;> first
                 | (with_reducible refine h1 ?_; clear h1 h2 R1 R2; try simp only [hb]; try simp only [decide_eq_true_eq, decide_eq_false_iff_not, beq_iff_eq, beq_eq_false_iff_ne, bne_iff_ne, bne_eq_false_iff_eq, Bool.not_eq_true, Bool.not_eq_false, Bool.not_eq_eq_eq_not, Bool.not_true, Bool.not_false, ne_eq, Int.not_lt, Int.not_le, eq_self, not_true_eq_false, not_false_eq_true, decide_true, decide_false, Bool.and_eq_true, Bool.or_eq_true, Bool.and_eq_false_iff, Bool.or_eq_false_iff, gt_iff_lt, ge_iff_le, Bool.false_eq_true, Bool.true_eq_false, reduceCtorEq, or_false, false_or, or_true, true_or, false_and, and_false, szN_lt, szN_ge, heldI_cf, cf_length, take_cf] at hb; try (exfalso; omega))
                 | (with_reducible refine h2 ?_; clear h1 h2 R1 R2; try simp only [hb]; try simp only [decide_eq_true_eq, decide_eq_false_iff_not, beq_iff_eq, beq_eq_false_iff_ne, bne_iff_ne, bne_eq_false_iff_eq, Bool.not_eq_true, Bool.not_eq_false, Bool.not_eq_eq_eq_not, Bool.not_true, Bool.not_false, ne_eq, Int.not_lt, Int.not_le, eq_self, not_true_eq_false, not_false_eq_true, decide_true, decide_false, Bool.and_eq_true, Bool.or_eq_true, Bool.and_eq_false_iff, Bool.or_eq_false_iff, gt_iff_lt, ge_iff_le, Bool.false_eq_true, Bool.true_eq_false, reduceCtorEq, or_false, false_or, or_true, true_or, false_and, and_false, szN_lt, szN_ge, heldI_cf, cf_length, take_cf] at hb; try (exfalso; omega))))
      all_goals first
        | (dsimp only [kon]
           with_reducible refine hQ _ _ _ ?_
           dsimp only [kon, endQ, af10, conLawRI, go_sem, Nat.reduceAdd, Nat.reduceMul, Nat.reduceSub, Nat.reduceBEq, Nat.reduceLeDiff, Nat.reduceEqDiff, ↓dreduceIte, toG, tb10_15, tb10_17, tb10_19, tb10_29, tb10_30, tb10_31, tb10_32, tb10_37, tb10_38, conEqI, conEqRecS, conHeldI, conMarkI, conMarkRecS, conPastOf, conSzRecS, conToRecS]
           try simp (disch := first | omega | (simp only [List.length_set, List.length_append, List.length_cons, List.length_nil, List.length_replicate]; omega)) only [guardP_T, guardP_pos, iteN, rd_set, List.set_set, List.length_set, eta_fact, eta_rumor, eta_doubt, eta_item, eta_rec, eta_due, look, look0, rd_toNat, wrap64, Int.toNat_natCast, Nat.zero_add, List.take_length, List.drop_zero, and_self, setB_len, true_and, and_true]
           try dsimp only [go_sem, Nat.reduceAdd, Nat.reduceMul, Nat.reduceSub, Nat.reduceBEq, Nat.reduceLeDiff, Nat.reduceEqDiff, ↓dreduceIte, toG, tb10_15, tb10_17, tb10_19, tb10_29, tb10_30, tb10_31, tb10_32, tb10_37, tb10_38, conEqI, conEqRecS, conHeldI, conMarkI, conMarkRecS, conPastOf, conSzRecS, conToRecS])
        | skip
      all_goals try first
        | omega
        | (simp; done)
        | (simp; omega)
      all_goals rfl
    · simp at h'

end Go.Proofs.Ytpinkajnaeacdaa
