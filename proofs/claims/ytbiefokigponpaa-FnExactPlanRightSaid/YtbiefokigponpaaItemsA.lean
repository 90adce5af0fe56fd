/- Items: what a right one is. -/
import Derived.Test.YtbiefokigponpaaBaseA
namespace Go.Proofs.Ytbiefokigponpaa
set_option linter.unusedVariables false
set_option linter.unusedSimpArgs false
set_option linter.unnecessarySimpa false

def itemLo (k : Int) : Int := if k = 1 ∨ k = 2 ∨ k = 7 ∨ k = 3 then 1 else 0
def itemHi (k : Int) : Int := if k = 1 ∨ k = 2 ∨ k = 7 then 6 else if k = 3 then 63 else if k = 5 then 100 else if k = 6 ∨ k = 8 then 9 else 0

/-- A right item. -/
def itemOk (x : Item) : Bool := inr x.kind 1 9 && (inr x.at_ 0 2000 && ((decide (x.kind ≠ 9) || decide (x.at_ = 0)) && (inr x.a (itemLo x.kind) (itemHi x.kind) && (if x.kind = 8 then inr x.b 0 500 else x.b == 0))))

def conItemOk : Con := ⟨[.v], .v, fun as => match as with
  | [.agg [.int .i64 a, .int .i64 b, .int .i64 c, .int .i64 d]] => some (.bool (itemOk ⟨a, b, c, d⟩), [])
  | _ => none⟩

-- loop.example/g00678/spec.ItemRight hows []
def af8 : AF := ⟨56, [.t 2],
  .seq (.reg [⟨some 1, .box (.t 0), none⟩,
    ⟨some 2, .mv (.b false), none⟩])
  (.seq (.seq (.reg [⟨some 5, .fa 0 (.t 1), none⟩,
    ⟨some 6, .ld false 1 (.t 5), none⟩,
    ⟨some 7, .call 27 [(.t 6), (.i 1), (.i 9)], none⟩,
    ⟨some 8, .un .not (.t 7), none⟩,
    ⟨some 9, .mv (.t 8), none⟩,
    ⟨some 10, .fa 1 (.t 1), some (9, false)⟩,
    ⟨some 11, .ld false 1 (.t 10), some (9, false)⟩,
    ⟨some 12, .call 27 [(.t 11), (.i 0), (.i 2000)], some (9, false)⟩,
    ⟨some 13, .un .not (.t 12), some (9, false)⟩,
    ⟨some 14, .pick (.t 9) (.b true) (.t 13), none⟩])
  (.cond (.t 14)
    (.seq (.reg [⟨some 2, .mv (.b false), none⟩])
    (.ret))
    (.skip)))
  (.seq (.reg [⟨some 3, .mv (.i 0), none⟩,
    ⟨some 4, .mv (.i 0), none⟩])
  (.seq (.seq (.reg [⟨some 15, .fa 0 (.t 1), none⟩,
    ⟨some 16, .ld false 1 (.t 15), none⟩])
  (.block 0 (.seq (.seq (.reg [⟨some 18, .bin .eql (.t 16) (.i 1), none⟩,
      ⟨some 17, .mv (.t 18), none⟩])
    (.cond (.t 17)
      (.skip)
      (.seq (.reg [⟨some 19, .bin .eql (.t 16) (.i 2), none⟩,
        ⟨some 17, .mv (.t 19), none⟩])
      (.cond (.t 17)
        (.skip)
        (.reg [⟨some 20, .bin .eql (.t 16) (.i 7), none⟩,
          ⟨some 17, .mv (.t 20), none⟩])))))
    (.cond (.t 17)
      (.reg [⟨some 3, .mv (.i 1), none⟩,
        ⟨some 4, .mv (.i 6), none⟩])
      (.seq (.reg [⟨some 22, .bin .eql (.t 16) (.i 3), none⟩,
        ⟨some 21, .mv (.t 22), none⟩])
      (.cond (.t 21)
        (.reg [⟨some 3, .mv (.i 1), none⟩,
          ⟨some 4, .mv (.i 63), none⟩])
        (.seq (.reg [⟨some 24, .bin .eql (.t 16) (.i 5), none⟩,
          ⟨some 23, .mv (.t 24), none⟩])
        (.cond (.t 23)
          (.reg [⟨some 4, .mv (.i 100), none⟩])
          (.seq (.seq (.reg [⟨some 26, .bin .eql (.t 16) (.i 6), none⟩,
            ⟨some 25, .mv (.t 26), none⟩])
          (.cond (.t 25)
            (.skip)
            (.reg [⟨some 27, .bin .eql (.t 16) (.i 8), none⟩,
              ⟨some 25, .mv (.t 27), none⟩])))
          (.cond (.t 25)
            (.reg [⟨some 4, .mv (.i 9), none⟩])
            (.seq (.reg [⟨some 29, .bin .eql (.t 16) (.i 9), none⟩,
              ⟨some 28, .mv (.t 29), none⟩])
            (.cond (.t 28)
              (.seq (.reg [⟨some 30, .fa 1 (.t 1), none⟩,
                ⟨some 31, .ld false 1 (.t 30), none⟩,
                ⟨some 32, .bin .neq (.t 31) (.i 0), none⟩])
              (.cond (.t 32)
                (.seq (.reg [⟨some 2, .mv (.b false), none⟩])
                (.ret))
                (.skip)))
              (.skip)))))))))))))
  (.seq (.seq (.reg [⟨some 33, .fa 0 (.t 1), none⟩,
    ⟨some 34, .ld false 1 (.t 33), none⟩,
    ⟨some 35, .bin .eql (.t 34) (.i 8), none⟩])
  (.cond (.t 35)
    (.seq (.reg [⟨some 36, .fa 2 (.t 1), none⟩,
      ⟨some 37, .ld false 1 (.t 36), none⟩,
      ⟨some 38, .mv (.t 3), none⟩,
      ⟨some 39, .mv (.t 4), none⟩,
      ⟨some 40, .call 27 [(.t 37), (.t 38), (.t 39)], none⟩,
      ⟨some 41, .mv (.t 40), none⟩,
      ⟨some 42, .fa 3 (.t 1), some (41, true)⟩,
      ⟨some 43, .ld false 1 (.t 42), some (41, true)⟩,
      ⟨some 44, .call 27 [(.t 43), (.i 0), (.i 500)], some (41, true)⟩,
      ⟨some 45, .pick (.t 41) (.t 44) (.b false), none⟩,
      ⟨some 2, .mv (.t 45), none⟩])
    (.ret))
    (.skip)))
  (.seq (.reg [⟨some 46, .fa 2 (.t 1), none⟩,
    ⟨some 47, .ld false 1 (.t 46), none⟩,
    ⟨some 48, .mv (.t 3), none⟩,
    ⟨some 49, .mv (.t 4), none⟩,
    ⟨some 50, .call 27 [(.t 47), (.t 48), (.t 49)], none⟩,
    ⟨some 51, .mv (.t 50), none⟩,
    ⟨some 52, .fa 3 (.t 1), some (51, true)⟩,
    ⟨some 53, .ld false 1 (.t 52), some (51, true)⟩,
    ⟨some 54, .bin .eql (.t 53) (.i 0), some (51, true)⟩,
    ⟨some 55, .pick (.t 51) (.t 54) (.b false), none⟩,
    ⟨some 2, .mv (.t 55), none⟩])
  (.ret))))))⟩

set_option maxHeartbeats 4000000 in
theorem does8 (as : List AV) (hok : ok 64 as) : Does tb29 af8 conItemOk as := by
  cases h : (conItemOk).run as with
  | none => exact does_none h
  | some out =>
    have h' := h
    simp only [conItemOk] at h'
    split at h'
    · rename_i a b c d
      simp only [Option.some.injEq] at h'
      subst h'
      have hmo : (most : Int) = 1099511627776 := rfl
      have hml : (maxLen : Int) = 9223372036854775807 := rfl
      with_reducible refine does_by h fun Q hQ => ?_
      clear h
      dsimp only [af8, conItemOk, go_sem, Nat.reduceAdd, Nat.reduceMul, Nat.reduceSub, Nat.reduceBEq, Nat.reduceLeDiff, Nat.reduceEqDiff, ↓dreduceIte, toG, tb29_27, conIn]
      repeat' first
        | with_reducible refine kon_seq ?_
        | with_reducible refine kon_nil ?_
        | with_reducible refine kon_skip ?_
        | with_reducible refine kon_block ?_
        | with_reducible refine kon_ret ?_
        | with_reducible refine kon_exit ?_
        | with_reducible refine kon_past_ret ?_
        | with_reducible refine kon_past_exit ?_
        | with_reducible refine kon_blk_ret ?_
        | with_reducible refine kon_blk_end ?_
        | with_reducible refine kon_blk_exit ?_
        | with_reducible refine loop_exit ?_
        | with_reducible refine loop_ret ?_
        | with_reducible refine mid_exit ?_
        | with_reducible refine mid_ret ?_
        | (with_reducible refine kon_bin fun R hR => ?_
           dsimp only [go_sem, Nat.reduceAdd, Nat.reduceMul, Nat.reduceSub, Nat.reduceBEq, Nat.reduceLeDiff, Nat.reduceEqDiff, ↓dreduceIte, toG, tb29_27, conIn]
           try simp (disch := omega) only [guardP_T, guardP_pos, iteN, rd_set, List.set_set, List.length_set, eta_fact, eta_rumor, eta_doubt, eta_item, eta_rec, eta_due, look, look0, rd_toNat, wrap64, Int.toNat_natCast, Nat.zero_add, List.take_length, List.drop_zero, and_self, setB_len, true_and, and_true]
           with_reducible refine hR _ ?_
           clear hR R)
        | (with_reducible refine kon_conv fun R hR => ?_
           dsimp only [go_sem, Nat.reduceAdd, Nat.reduceMul, Nat.reduceSub, Nat.reduceBEq, Nat.reduceLeDiff, Nat.reduceEqDiff, ↓dreduceIte, toG, tb29_27, conIn]
           try simp (disch := omega) only [guardP_T, guardP_pos, iteN, rd_set, List.set_set, List.length_set, eta_fact, eta_rumor, eta_doubt, eta_item, eta_rec, eta_due, look, look0, rd_toNat, wrap64, Int.toNat_natCast, Nat.zero_add, List.take_length, List.drop_zero, and_self, setB_len, true_and, and_true]
           with_reducible refine hR _ ?_
           clear hR R)
        | (with_reducible refine kon_ins fun R hR => ?_
           dsimp only [go_sem, Nat.reduceAdd, Nat.reduceMul, Nat.reduceSub, Nat.reduceBEq, Nat.reduceLeDiff, Nat.reduceEqDiff, ↓dreduceIte, toG, tb29_27, conIn]
           first
             | with_reducible refine hR _ ?_
             | (simp (disch := omega) only [guardP_T, guardP_pos, iteN, rd_set, List.set_set, List.length_set, eta_fact, eta_rumor, eta_doubt, eta_item, eta_rec, eta_due, look, look0, rd_toNat, wrap64, Int.toNat_natCast, Nat.zero_add, List.take_length, List.drop_zero, and_self, setB_len, true_and, and_true]
                try dsimp only [go_sem, Nat.reduceAdd, Nat.reduceMul, Nat.reduceSub, Nat.reduceBEq, Nat.reduceLeDiff, Nat.reduceEqDiff, ↓dreduceIte, toG, tb29_27, conIn]
                try simp (disch := omega) only [guardP_T, guardP_pos, iteN, rd_set, List.set_set, List.length_set, eta_fact, eta_rumor, eta_doubt, eta_item, eta_rec, eta_due, look, look0, rd_toNat, wrap64, Int.toNat_natCast, Nat.zero_add, List.take_length, List.drop_zero, and_self, setB_len, true_and, and_true]
                with_reducible refine hR _ ?_)
           clear hR R)
        | (with_reducible refine kon_g_run ?_ ?_
           · dsimp only [nth] <;> with_reducible rfl)
        | (with_reducible refine kon_g_skip ?_ ?_
           · dsimp only [nth, not_t', not_f'] <;> with_reducible rfl
           dsimp only [go_sem])
        | (with_reducible refine kon_g_undef ?_ ?_
           · dsimp only [nth] <;> with_reducible rfl
           dsimp only [go_sem])
        | (with_reducible refine kon_g fun R hR => ?_
           dsimp only [go_sem, Nat.reduceAdd, Nat.reduceMul, Nat.reduceSub, Nat.reduceBEq, Nat.reduceLeDiff, Nat.reduceEqDiff, ↓dreduceIte, toG, tb29_27, conIn]
           split <;> (rename_i hb; with_reducible refine hR _ ?_; clear hR R; try simp only [hb]; try simp only [decide_eq_true_eq, decide_eq_false_iff_not, beq_iff_eq, beq_eq_false_iff_ne, bne_iff_ne, bne_eq_false_iff_eq, Bool.not_eq_true, Bool.not_eq_false, Bool.not_eq_eq_eq_not, Bool.not_true, Bool.not_false, ne_eq, Int.not_lt, Int.not_le, eq_self, not_true_eq_false, not_false_eq_true, decide_true, decide_false, Bool.and_eq_true, Bool.or_eq_true, Bool.and_eq_false_iff, Bool.or_eq_false_iff, gt_iff_lt, ge_iff_le, Bool.false_eq_true, Bool.true_eq_false, reduceCtorEq, or_false, false_or, or_true, true_or, false_and, and_false] at hb; try (exfalso; omega)))
        | (with_reducible refine kon_cond fun R1 R2 h1 h2 => ?_
           dsimp only [go_sem]
           first
             | (with_reducible refine h1 ?_; clear h1 h2 R1 R2)
             | (with_reducible refine h2 ?_; clear h1 h2 R1 R2)
             | (split <;> rename_i hb <;> first
                 | (with_reducible refine h1 ?_; clear h1 h2 R1 R2; try simp only [hb]; try simp only [decide_eq_true_eq, decide_eq_false_iff_not, beq_iff_eq, beq_eq_false_iff_ne, bne_iff_ne, bne_eq_false_iff_eq, Bool.not_eq_true, Bool.not_eq_false, Bool.not_eq_eq_eq_not, Bool.not_true, Bool.not_false, ne_eq, Int.not_lt, Int.not_le, eq_self, not_true_eq_false, not_false_eq_true, decide_true, decide_false, Bool.and_eq_true, Bool.or_eq_true, Bool.and_eq_false_iff, Bool.or_eq_false_iff, gt_iff_lt, ge_iff_le, Bool.false_eq_true, Bool.true_eq_false, reduceCtorEq, or_false, false_or, or_true, true_or, false_and, and_false] at hb; try (exfalso; omega))
                 | (with_reducible refine h2 ?_; clear h1 h2 R1 R2; try simp only [hb]; try simp only [decide_eq_true_eq, decide_eq_false_iff_not, beq_iff_eq, beq_eq_false_iff_ne, bne_iff_ne, bne_eq_false_iff_eq, Bool.not_eq_true, Bool.not_eq_false, Bool.not_eq_eq_eq_not, Bool.not_true, Bool.not_false, ne_eq, Int.not_lt, Int.not_le, eq_self, not_true_eq_false, not_false_eq_true, decide_true, decide_false, Bool.and_eq_true, Bool.or_eq_true, Bool.and_eq_false_iff, Bool.or_eq_false_iff, gt_iff_lt, ge_iff_le, Bool.false_eq_true, Bool.true_eq_false, reduceCtorEq, or_false, false_or, or_true, true_or, false_and, and_false] at hb; try (exfalso; omega))))
      all_goals first
        | (dsimp only [kon]
           with_reducible refine hQ _ _ _ ?_
           dsimp only [kon, endQ, af8, conItemOk, go_sem, Nat.reduceAdd, Nat.reduceMul, Nat.reduceSub, Nat.reduceBEq, Nat.reduceLeDiff, Nat.reduceEqDiff, ↓dreduceIte, toG, tb29_27, conIn]
           try simp (disch := omega) only [guardP_T, guardP_pos, iteN, rd_set, List.set_set, List.length_set, eta_fact, eta_rumor, eta_doubt, eta_item, eta_rec, eta_due, look, look0, rd_toNat, wrap64, Int.toNat_natCast, Nat.zero_add, List.take_length, List.drop_zero, and_self, setB_len, true_and, and_true]
           try dsimp only [go_sem, Nat.reduceAdd, Nat.reduceMul, Nat.reduceSub, Nat.reduceBEq, Nat.reduceLeDiff, Nat.reduceEqDiff, ↓dreduceIte, toG, tb29_27, conIn])
        | skip
      all_goals try first
        | omega
        | (simp; done)
        | (simp; omega)
      all_goals
        try simp only [Option.some.injEq, Prod.mk.injEq, and_true, AV.bool.injEq, List.cons.injEq]
        try simp_all [itemOk, itemLo, itemHi, inr]
        try (rw [Bool.eq_iff_iff]; simp only [Bool.and_eq_true, Bool.or_eq_true, decide_eq_true_eq, beq_iff_eq])
        try omega
    · simp at h'

-- loop.example/g00678/impl.ItemRight hows []
def af10 : AF := ⟨43, [.t 2],
  .seq (.reg [⟨some 1, .box (.t 0), none⟩,
    ⟨some 2, .mv (.b false), none⟩])
  (.seq (.reg [⟨some 3, .mv (.i 0), none⟩,
    ⟨some 4, .mv (.i 0), none⟩,
    ⟨some 5, .mv (.i 0), none⟩])
  (.seq (.seq (.reg [⟨some 6, .fa 0 (.t 1), none⟩,
    ⟨some 7, .ld false 1 (.t 6), none⟩])
  (.block 0 (.seq (.seq (.reg [⟨some 9, .bin .eql (.t 7) (.i 1), none⟩,
      ⟨some 8, .mv (.t 9), none⟩])
    (.cond (.t 8)
      (.skip)
      (.seq (.reg [⟨some 10, .bin .eql (.t 7) (.i 2), none⟩,
        ⟨some 8, .mv (.t 10), none⟩])
      (.cond (.t 8)
        (.skip)
        (.reg [⟨some 11, .bin .eql (.t 7) (.i 7), none⟩,
          ⟨some 8, .mv (.t 11), none⟩])))))
    (.cond (.t 8)
      (.reg [⟨some 3, .mv (.i 1), none⟩,
        ⟨some 4, .mv (.i 6), none⟩])
      (.seq (.reg [⟨some 13, .bin .eql (.t 7) (.i 3), none⟩,
        ⟨some 12, .mv (.t 13), none⟩])
      (.cond (.t 12)
        (.reg [⟨some 3, .mv (.i 1), none⟩,
          ⟨some 4, .mv (.i 63), none⟩])
        (.seq (.reg [⟨some 15, .bin .eql (.t 7) (.i 5), none⟩,
          ⟨some 14, .mv (.t 15), none⟩])
        (.cond (.t 14)
          (.reg [⟨some 4, .mv (.i 100), none⟩])
          (.seq (.reg [⟨some 17, .bin .eql (.t 7) (.i 6), none⟩,
            ⟨some 16, .mv (.t 17), none⟩])
          (.cond (.t 16)
            (.reg [⟨some 4, .mv (.i 9), none⟩])
            (.seq (.reg [⟨some 19, .bin .eql (.t 7) (.i 8), none⟩,
              ⟨some 18, .mv (.t 19), none⟩])
            (.cond (.t 18)
              (.reg [⟨some 4, .mv (.i 9), none⟩,
                ⟨some 5, .mv (.i 500), none⟩])
              (.seq (.reg [⟨some 21, .bin .eql (.t 7) (.i 4), none⟩,
                ⟨some 20, .mv (.t 21), none⟩])
              (.cond (.t 20)
                (.skip)
                (.seq (.reg [⟨some 23, .bin .eql (.t 7) (.i 9), none⟩,
                  ⟨some 22, .mv (.t 23), none⟩])
                (.cond (.t 22)
                  (.seq (.reg [⟨some 24, .ld true 4 (.t 1), none⟩,
                    ⟨some 25, .build [.int .i64 0, .int .i64 0, .int .i64 0, .int .i64 0] [(0, 1, (.i 9))], none⟩,
                    ⟨some 26, .eqa false [.i, .i, .i, .i] (.t 24) (.t 25), none⟩,
                    ⟨some 2, .mv (.t 26), none⟩])
                  (.ret))
                  (.seq (.reg [⟨some 2, .mv (.b false), none⟩])
                  (.ret))))))))))))))))))
  (.seq (.reg [⟨some 27, .fa 1 (.t 1), none⟩,
    ⟨some 28, .ld false 1 (.t 27), none⟩,
    ⟨some 29, .call 28 [(.t 28), (.i 0), (.i 2000)], none⟩,
    ⟨some 30, .mv (.t 29), none⟩,
    ⟨some 31, .fa 2 (.t 1), some (30, true)⟩,
    ⟨some 32, .ld false 1 (.t 31), some (30, true)⟩,
    ⟨some 33, .mv (.t 3), some (30, true)⟩,
    ⟨some 34, .mv (.t 4), some (30, true)⟩,
    ⟨some 35, .call 28 [(.t 32), (.t 33), (.t 34)], some (30, true)⟩,
    ⟨some 36, .pick (.t 30) (.t 35) (.b false), none⟩,
    ⟨some 37, .mv (.t 36), none⟩,
    ⟨some 38, .fa 3 (.t 1), some (37, true)⟩,
    ⟨some 39, .ld false 1 (.t 38), some (37, true)⟩,
    ⟨some 40, .mv (.t 5), some (37, true)⟩,
    ⟨some 41, .call 28 [(.t 39), (.i 0), (.t 40)], some (37, true)⟩,
    ⟨some 42, .pick (.t 37) (.t 41) (.b false), none⟩,
    ⟨some 2, .mv (.t 42), none⟩])
  (.ret))))⟩

set_option maxHeartbeats 4000000 in
theorem does10 (as : List AV) (hok : ok 64 as) : Does tb31 af10 conItemOk as := by
  cases h : (conItemOk).run as with
  | none => exact does_none h
  | some out =>
    have h' := h
    simp only [conItemOk] at h'
    split at h'
    · rename_i a b c d
      simp only [Option.some.injEq] at h'
      subst h'
      have hmo : (most : Int) = 1099511627776 := rfl
      have hml : (maxLen : Int) = 9223372036854775807 := rfl
      with_reducible refine does_by h fun Q hQ => ?_
      clear h
      dsimp only [af10, conItemOk, go_sem, Nat.reduceAdd, Nat.reduceMul, Nat.reduceSub, Nat.reduceBEq, Nat.reduceLeDiff, Nat.reduceEqDiff, ↓dreduceIte, toG, tb31_28, conIn]
      repeat' first
        | with_reducible refine kon_seq ?_
        | with_reducible refine kon_nil ?_
        | with_reducible refine kon_skip ?_
        | with_reducible refine kon_block ?_
        | with_reducible refine kon_ret ?_
        | with_reducible refine kon_exit ?_
        | with_reducible refine kon_past_ret ?_
        | with_reducible refine kon_past_exit ?_
        | with_reducible refine kon_blk_ret ?_
        | with_reducible refine kon_blk_end ?_
        | with_reducible refine kon_blk_exit ?_
        | with_reducible refine loop_exit ?_
        | with_reducible refine loop_ret ?_
        | with_reducible refine mid_exit ?_
        | with_reducible refine mid_ret ?_
        | (with_reducible refine kon_bin fun R hR => ?_
           dsimp only [go_sem, Nat.reduceAdd, Nat.reduceMul, Nat.reduceSub, Nat.reduceBEq, Nat.reduceLeDiff, Nat.reduceEqDiff, ↓dreduceIte, toG, tb31_28, conIn]
           try simp (disch := omega) only [guardP_T, guardP_pos, iteN, rd_set, List.set_set, List.length_set, eta_fact, eta_rumor, eta_doubt, eta_item, eta_rec, eta_due, look, look0, rd_toNat, wrap64, Int.toNat_natCast, Nat.zero_add, List.take_length, List.drop_zero, and_self, setB_len, true_and, and_true]
           with_reducible refine hR _ ?_
           clear hR R)
        | (with_reducible refine kon_conv fun R hR => ?_
           dsimp only [go_sem, Nat.reduceAdd, Nat.reduceMul, Nat.reduceSub, Nat.reduceBEq, Nat.reduceLeDiff, Nat.reduceEqDiff, ↓dreduceIte, toG, tb31_28, conIn]
           try simp (disch := omega) only [guardP_T, guardP_pos, iteN, rd_set, List.set_set, List.length_set, eta_fact, eta_rumor, eta_doubt, eta_item, eta_rec, eta_due, look, look0, rd_toNat, wrap64, Int.toNat_natCast, Nat.zero_add, List.take_length, List.drop_zero, and_self, setB_len, true_and, and_true]
           with_reducible refine hR _ ?_
           clear hR R)
        | (with_reducible refine kon_ins fun R hR => ?_
           dsimp only [go_sem, Nat.reduceAdd, Nat.reduceMul, Nat.reduceSub, Nat.reduceBEq, Nat.reduceLeDiff, Nat.reduceEqDiff, ↓dreduceIte, toG, tb31_28, conIn]
           first
             | with_reducible refine hR _ ?_
             | (simp (disch := omega) only [guardP_T, guardP_pos, iteN, rd_set, List.set_set, List.length_set, eta_fact, eta_rumor, eta_doubt, eta_item, eta_rec, eta_due, look, look0, rd_toNat, wrap64, Int.toNat_natCast, Nat.zero_add, List.take_length, List.drop_zero, and_self, setB_len, true_and, and_true]
                try dsimp only [go_sem, Nat.reduceAdd, Nat.reduceMul, Nat.reduceSub, Nat.reduceBEq, Nat.reduceLeDiff, Nat.reduceEqDiff, ↓dreduceIte, toG, tb31_28, conIn]
                try simp (disch := omega) only [guardP_T, guardP_pos, iteN, rd_set, List.set_set, List.length_set, eta_fact, eta_rumor, eta_doubt, eta_item, eta_rec, eta_due, look, look0, rd_toNat, wrap64, Int.toNat_natCast, Nat.zero_add, List.take_length, List.drop_zero, and_self, setB_len, true_and, and_true]
                with_reducible refine hR _ ?_)
           clear hR R)
        | (with_reducible refine kon_g_run ?_ ?_
           · dsimp only [nth] <;> with_reducible rfl)
        | (with_reducible refine kon_g_skip ?_ ?_
           · dsimp only [nth, not_t', not_f'] <;> with_reducible rfl
           dsimp only [go_sem])
        | (with_reducible refine kon_g_undef ?_ ?_
           · dsimp only [nth] <;> with_reducible rfl
           dsimp only [go_sem])
        | (with_reducible refine kon_g fun R hR => ?_
           dsimp only [go_sem, Nat.reduceAdd, Nat.reduceMul, Nat.reduceSub, Nat.reduceBEq, Nat.reduceLeDiff, Nat.reduceEqDiff, ↓dreduceIte, toG, tb31_28, conIn]
           split <;> (rename_i hb; with_reducible refine hR _ ?_; clear hR R; try simp only [hb]; try simp only [decide_eq_true_eq, decide_eq_false_iff_not, beq_iff_eq, beq_eq_false_iff_ne, bne_iff_ne, bne_eq_false_iff_eq, Bool.not_eq_true, Bool.not_eq_false, Bool.not_eq_eq_eq_not, Bool.not_true, Bool.not_false, ne_eq, Int.not_lt, Int.not_le, eq_self, not_true_eq_false, not_false_eq_true, decide_true, decide_false, Bool.and_eq_true, Bool.or_eq_true, Bool.and_eq_false_iff, Bool.or_eq_false_iff, gt_iff_lt, ge_iff_le, Bool.false_eq_true, Bool.true_eq_false, reduceCtorEq, or_false, false_or, or_true, true_or, false_and, and_false] at hb; try (exfalso; omega)))
        | (with_reducible refine kon_cond fun R1 R2 h1 h2 => ?_
           dsimp only [go_sem]
           first
             | (with_reducible refine h1 ?_; clear h1 h2 R1 R2)
             | (with_reducible refine h2 ?_; clear h1 h2 R1 R2)
             | (split <;> rename_i hb <;> first
                 | (with_reducible refine h1 ?_; clear h1 h2 R1 R2; try simp only [hb]; try simp only [decide_eq_true_eq, decide_eq_false_iff_not, beq_iff_eq, beq_eq_false_iff_ne, bne_iff_ne, bne_eq_false_iff_eq, Bool.not_eq_true, Bool.not_eq_false, Bool.not_eq_eq_eq_not, Bool.not_true, Bool.not_false, ne_eq, Int.not_lt, Int.not_le, eq_self, not_true_eq_false, not_false_eq_true, decide_true, decide_false, Bool.and_eq_true, Bool.or_eq_true, Bool.and_eq_false_iff, Bool.or_eq_false_iff, gt_iff_lt, ge_iff_le, Bool.false_eq_true, Bool.true_eq_false, reduceCtorEq, or_false, false_or, or_true, true_or, false_and, and_false] at hb; try (exfalso; omega))
                 | (with_reducible refine h2 ?_; clear h1 h2 R1 R2; try simp only [hb]; try simp only [decide_eq_true_eq, decide_eq_false_iff_not, beq_iff_eq, beq_eq_false_iff_ne, bne_iff_ne, bne_eq_false_iff_eq, Bool.not_eq_true, Bool.not_eq_false, Bool.not_eq_eq_eq_not, Bool.not_true, Bool.not_false, ne_eq, Int.not_lt, Int.not_le, eq_self, not_true_eq_false, not_false_eq_true, decide_true, decide_false, Bool.and_eq_true, Bool.or_eq_true, Bool.and_eq_false_iff, Bool.or_eq_false_iff, gt_iff_lt, ge_iff_le, Bool.false_eq_true, Bool.true_eq_false, reduceCtorEq, or_false, false_or, or_true, true_or, false_and, and_false] at hb; try (exfalso; omega))))
      all_goals first
        | (dsimp only [kon]
           with_reducible refine hQ _ _ _ ?_
           dsimp only [kon, endQ, af10, conItemOk, go_sem, Nat.reduceAdd, Nat.reduceMul, Nat.reduceSub, Nat.reduceBEq, Nat.reduceLeDiff, Nat.reduceEqDiff, ↓dreduceIte, toG, tb31_28, conIn]
           try simp (disch := omega) only [guardP_T, guardP_pos, iteN, rd_set, List.set_set, List.length_set, eta_fact, eta_rumor, eta_doubt, eta_item, eta_rec, eta_due, look, look0, rd_toNat, wrap64, Int.toNat_natCast, Nat.zero_add, List.take_length, List.drop_zero, and_self, setB_len, true_and, and_true]
           try dsimp only [go_sem, Nat.reduceAdd, Nat.reduceMul, Nat.reduceSub, Nat.reduceBEq, Nat.reduceLeDiff, Nat.reduceEqDiff, ↓dreduceIte, toG, tb31_28, conIn])
        | skip
      all_goals try first
        | omega
        | (simp; done)
        | (simp; omega)
      all_goals
        try simp only [Option.some.injEq, Prod.mk.injEq, and_true, AV.bool.injEq, List.cons.injEq]
        try simp_all [itemOk, itemLo, itemHi, inr]
        try (rw [Bool.eq_iff_iff]; simp only [Bool.and_eq_true, Bool.or_eq_true, decide_eq_true_eq, beq_iff_eq])
        try omega
    · simp at h'

end Go.Proofs.Ytbiefokigponpaa
