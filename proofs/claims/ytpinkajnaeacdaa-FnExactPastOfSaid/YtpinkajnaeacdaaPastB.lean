/- What can have come of what: the rows of what is ahead. -/
import Derived.Test.YtpinkajnaeacdaaPastA
namespace Go.Proofs.Ytpinkajnaeacdaa
set_option linter.unusedVariables false
set_option linter.unusedSimpArgs false
set_option linter.unnecessarySimpa false

def dirs (l : List Rec) (i : Int) (j : Int) : List Int := (dirB l i).take j.toNat
def orPart (own r : List Bool) (m : Int) : List Bool := (orRow own r).take m.toNat ++ own.drop m.toNat

theorem orPart_step {own r : List Bool} {m : Int} (h0 : 0 ≤ m) (h1 : m < own.length) (hl : own.length = r.length) : (orPart own r m).set m.toNat (rd (orPart own r m) m || rd r m) = orPart own r (m + 1) := by
  have hlen : (orRow own r).length = own.length := orRow_length hl
  have e1 : rd (orPart own r m) m = rd own m := by
    unfold rd orPart
    rw [List.getD_eq_getElem?_getD, List.getD_eq_getElem?_getD, List.getElem?_append_right (by simp; omega)]
    simp only [List.length_take, hlen, List.getElem?_drop]
    congr 2
    omega
  rw [e1]
  unfold orPart
  rw [List.set_append_right _ _ (by simp; omega), drop_rd h0 h1, take_rd h0 (by omega), rd_orRow h0 h1 (by omega)]
  simp only [List.length_take, hlen]
  rw [show m.toNat - min m.toNat own.length = 0 by omega]
  simp

theorem orPart_zero (own r : List Bool) : orPart own r 0 = own := by simp [orPart]
theorem orPart_all {own r : List Bool} {m : Int} (hl : own.length = r.length) (h : (r.length : Int) ≤ m) : orPart own r m = orRow own r := by
  unfold orPart
  rw [take_all (by rw [orRow_length hl]; omega), drop_all (by omega), List.append_nil]

theorem orPart_length {own r : List Bool} {m : Int} (hl : own.length = r.length) (h0 : 0 ≤ m) (h1 : m ≤ own.length) : (orPart own r m).length = own.length := by
  unfold orPart
  simp [orRow_length hl]
  omega

theorem dir_at {l : List Rec} {i j : Int} (h0 : 0 ≤ i) (hj : 0 ≤ j) (h : j < (dirB l i).length) : 0 ≤ rd (dirB l i) j ∧ rd (dirB l i) j < i := dirB_mem h0 (by
  rw [rd_eq hj h]
  exact List.getElem_mem _)

theorem row_at {l : List Rec} {i k : Int} (h1 : i ≤ l.length) (k0 : 0 ≤ k) (hk : k < i) : (rd (rowsB l i.toNat) k).length = l.length := (rows_reach l i.toNat (by omega) k k0 (by omega)).1

theorem dirs_step {l : List Rec} {i j : Int} {rs : List (List Bool)} {own : List Bool} (h0 : 0 ≤ j) (h1 : j < (dirB l i).length) : (dirs l i (j + 1)).foldl (rowStep rs) own = rowStep rs ((dirs l i j).foldl (rowStep rs) own) (rd (dirB l i) j) := by
  unfold dirs
  rw [take_rd h0 h1, List.foldl_append]
  rfl

theorem rows_step {l : List Rec} {i : Int} (h0 : 0 ≤ i) : rowsB l (i + 1).toNat = rowsB l i.toNat ++ [rowOf l (rowsB l i.toNat) i] := by
  rw [succ_toNat h0, rowsB, show ((i.toNat : Nat) : Int) = i by omega]

def tb68 : Tab := fun f => match f with
  | 74 => some conDir
  | _ => none

theorem tb68_74 : tb68 74 = some conDir := rfl

-- loop.example/g00678/impl.pasts hows []
def lp68_2 : AC := .seq (.reg [⟨some 36, .bin .lss (.t 35) (.t 34), none⟩])
                  (.seq (.cond (.t 36)
                    (.skip)
                    (.exit 4))
                  (.seq (.block 5 (.seq (.reg [⟨some 37, .mv (.t 35), none⟩,
                      ⟨some 38, .ia .bool (.t 33) (.t 35), none⟩,
                      ⟨some 39, .ld false 1 (.t 38), none⟩,
                      ⟨some 8, .mv (.t 37), none⟩,
                      ⟨some 9, .mv (.t 39), none⟩])
                    (.reg [⟨some 40, .mv (.t 5), none⟩,
                      ⟨some 41, .mv (.t 8), none⟩,
                      ⟨some 42, .mv (.t 5), none⟩,
                      ⟨some 43, .mv (.t 8), none⟩,
                      ⟨some 44, .ia .bool (.t 42) (.t 43), none⟩,
                      ⟨some 45, .ld false 1 (.t 44), none⟩,
                      ⟨some 46, .mv (.t 45), none⟩,
                      ⟨some 47, .mv (.t 9), some (46, false)⟩,
                      ⟨some 48, .pick (.t 46) (.b true) (.t 47), none⟩,
                      ⟨some 49, .ia .bool (.t 40) (.t 41), none⟩,
                      ⟨none, .st 1 (.t 49) (.t 48), none⟩])))
                  (.reg [⟨some 50, .bin .add (.t 35) (.i 1), none⟩,
                    ⟨some 35, .mv (.t 50), none⟩])))
def lp68_1 : AC := .seq (.reg [⟨some 24, .bin .lss (.t 23) (.t 22), none⟩])
            (.seq (.cond (.t 24)
              (.skip)
              (.exit 2))
            (.seq (.block 3 (.seq (.reg [⟨some 25, .ia .int (.t 21) (.t 23), none⟩,
                ⟨some 26, .ld false 1 (.t 25), none⟩,
                ⟨some 7, .mv (.t 26), none⟩])
              (.seq (.reg [⟨some 27, .mv (.t 5), none⟩,
                ⟨some 28, .mv (.t 7), none⟩,
                ⟨some 29, .ia .bool (.t 27) (.t 28), none⟩,
                ⟨none, .st 1 (.t 29) (.b true), none⟩])
              (.seq (.reg [⟨some 30, .mv (.t 3), none⟩,
                ⟨some 31, .mv (.t 7), none⟩,
                ⟨some 32, .ia .bools (.t 30) (.t 31), none⟩,
                ⟨some 33, .ld false 1 (.t 32), none⟩,
                ⟨some 34, .len (.t 33), none⟩,
                ⟨some 35, .mv (.i 0), none⟩])
              (.block 4 (.loop lp68_2))))))
            (.reg [⟨some 51, .bin .add (.t 23) (.i 1), none⟩,
              ⟨some 23, .mv (.t 51), none⟩])))
def lp68_0 : AC := .seq (.reg [⟨some 14, .bin .lss (.t 13) (.t 12), none⟩])
      (.seq (.cond (.t 14)
        (.skip)
        (.exit 0))
      (.seq (.block 1 (.seq (.reg [⟨some 15, .mv (.t 13), none⟩,
          ⟨some 4, .mv (.t 15), none⟩])
        (.seq (.reg [⟨some 16, .mv (.t 0), none⟩,
          ⟨some 17, .len (.t 16), none⟩,
          ⟨some 18, .mk .bool (zeroK .bool) (.t 17) (.t 17), none⟩,
          ⟨some 5, .mv (.t 18), none⟩])
        (.seq (.seq (.reg [⟨some 19, .mv (.t 0), none⟩,
          ⟨some 20, .mv (.t 4), none⟩,
          ⟨some 21, .call 74 [(.t 19), (.t 20)], none⟩,
          ⟨some 22, .len (.t 21), none⟩,
          ⟨some 23, .mv (.i 0), none⟩])
        (.block 2 (.loop lp68_1)))
        (.reg [⟨some 52, .mv (.t 3), none⟩,
          ⟨some 53, .mv (.t 5), none⟩,
          ⟨some 54, .slit .bools [(.t 53)], none⟩,
          ⟨some 55, .app .bools (.t 52) (.t 54), none⟩,
          ⟨some 3, .mv (.t 55), none⟩])))))
      (.reg [⟨some 56, .bin .add (.t 13) (.i 1), none⟩,
        ⟨some 13, .mv (.t 56), none⟩])))
def af68 : AF := ⟨58, [.t 2],
  .seq (.reg [⟨some 2, .mv (.c (.nil)), none⟩])
  (.seq (.reg [⟨some 10, .slit .bools [], none⟩,
    ⟨some 3, .mv (.t 10), none⟩])
  (.seq (.seq (.reg [⟨some 11, .mv (.t 0), none⟩,
    ⟨some 12, .len (.t 11), none⟩,
    ⟨some 13, .mv (.i 0), none⟩])
  (.block 0 (.loop lp68_0)))
  (.seq (.reg [⟨some 57, .mv (.t 3), none⟩,
    ⟨some 2, .mv (.t 57), none⟩])
  (.ret))))⟩

set_option maxHeartbeats 4000000 in
theorem does68 (as : List AV) (hok : ok 64 as) : Does tb68 af68 conPasts as := by
  cases h : (conPasts).run as with
  | none => exact does_none h
  | some out =>
    have h' := h
    simp only [conPasts] at h'
    split at h'
    · rename_i l
      by_cases hp : l.length ≤ 400 ∧ True
      case neg => simp [guardP, hp] at h'
      rw [guardP_pos hp] at h'
      obtain ⟨hp1, _⟩ := hp
      simp only [ok] at hok
      obtain ⟨⟨hlen, _⟩, _⟩ := hok
      simp only [Option.some.injEq] at h'
      subst h'
      have hmo : (most : Int) = 1099511627776 := rfl
      have hml : (maxLen : Int) = 9223372036854775807 := rfl
      with_reducible refine does_by h fun Q hQ => ?_
      clear h
      dsimp only [af68, conPasts, go_sem, Nat.reduceAdd, Nat.reduceMul, Nat.reduceSub, Nat.reduceBEq, Nat.reduceLeDiff, Nat.reduceEqDiff, ↓dreduceIte, toG, tb68_74, conDir]
      repeat' first
        | with_reducible refine kon_seq ?_
        | with_reducible refine kon_nil ?_
        | with_reducible refine kon_skip ?_
        | with_reducible refine kon_block ?_
        | with_reducible refine kon_ret ?_
        | with_reducible refine kon_exit ?_
        | with_reducible refine kon_past_ret ?_
        | with_reducible refine kon_past_exit ?_
        | with_reducible refine kon_blk_ret ?_
        | with_reducible refine kon_blk_end ?_
        | with_reducible refine kon_blk_exit ?_
        | (with_reducible refine kon_blk_past ?_ ?_
           · decide)
        | with_reducible refine loop_exit ?_
        | with_reducible refine loop_ret ?_
        | with_reducible refine mid_exit ?_
        | with_reducible refine mid_ret ?_
        | (with_reducible refine kon_bin fun R hR => ?_
           dsimp only [go_sem, Nat.reduceAdd, Nat.reduceMul, Nat.reduceSub, Nat.reduceBEq, Nat.reduceLeDiff, Nat.reduceEqDiff, ↓dreduceIte, toG, tb68_74, conDir]
           try simp (disch := first | omega | (simp only [List.length_set, List.length_append, List.length_cons, List.length_nil, List.length_replicate]; omega)) only [guardP_T, guardP_pos, iteN, rd_set, List.set_set, List.length_set, eta_fact, eta_rumor, eta_doubt, eta_item, eta_rec, eta_due, look, look0, rd_toNat, wrap64, Int.toNat_natCast, Nat.zero_add, List.take_length, List.drop_zero, and_self, setB_len, true_and, and_true]
           with_reducible refine hR _ ?_
           clear hR R)
        | (with_reducible refine kon_conv fun R hR => ?_
           dsimp only [go_sem, Nat.reduceAdd, Nat.reduceMul, Nat.reduceSub, Nat.reduceBEq, Nat.reduceLeDiff, Nat.reduceEqDiff, ↓dreduceIte, toG, tb68_74, conDir]
           try simp (disch := first | omega | (simp only [List.length_set, List.length_append, List.length_cons, List.length_nil, List.length_replicate]; omega)) only [guardP_T, guardP_pos, iteN, rd_set, List.set_set, List.length_set, eta_fact, eta_rumor, eta_doubt, eta_item, eta_rec, eta_due, look, look0, rd_toNat, wrap64, Int.toNat_natCast, Nat.zero_add, List.take_length, List.drop_zero, and_self, setB_len, true_and, and_true]
           with_reducible refine hR _ ?_
           clear hR R)
        | (with_reducible refine kon_ins fun R hR => ?_
           dsimp only [go_sem, Nat.reduceAdd, Nat.reduceMul, Nat.reduceSub, Nat.reduceBEq, Nat.reduceLeDiff, Nat.reduceEqDiff, ↓dreduceIte, toG, tb68_74, conDir]
           first
             | with_reducible refine hR _ ?_
             | (simp (disch := first | omega | (simp only [List.length_set, List.length_append, List.length_cons, List.length_nil, List.length_replicate]; omega)) only [guardP_T, guardP_pos, iteN, rd_set, List.set_set, List.length_set, eta_fact, eta_rumor, eta_doubt, eta_item, eta_rec, eta_due, look, look0, rd_toNat, wrap64, Int.toNat_natCast, Nat.zero_add, List.take_length, List.drop_zero, and_self, setB_len, true_and, and_true]
                try dsimp only [go_sem, Nat.reduceAdd, Nat.reduceMul, Nat.reduceSub, Nat.reduceBEq, Nat.reduceLeDiff, Nat.reduceEqDiff, ↓dreduceIte, toG, tb68_74, conDir]
                try simp (disch := first | omega | (simp only [List.length_set, List.length_append, List.length_cons, List.length_nil, List.length_replicate]; omega)) only [guardP_T, guardP_pos, iteN, rd_set, List.set_set, List.length_set, eta_fact, eta_rumor, eta_doubt, eta_item, eta_rec, eta_due, look, look0, rd_toNat, wrap64, Int.toNat_natCast, Nat.zero_add, List.take_length, List.drop_zero, and_self, setB_len, true_and, and_true]
                with_reducible refine hR _ ?_)
           clear hR R)
        | (with_reducible refine kon_g_run ?_ ?_
           · dsimp only [nth] <;> with_reducible rfl)
        | (with_reducible refine kon_g_skip ?_ ?_
           · dsimp only [nth, not_t', not_f'] <;> with_reducible rfl
           dsimp only [go_sem])
        | (with_reducible refine kon_g_undef ?_ ?_
           · dsimp only [nth] <;> with_reducible rfl
           dsimp only [go_sem])
        | (with_reducible refine kon_g fun R hR => ?_
           dsimp only [go_sem, Nat.reduceAdd, Nat.reduceMul, Nat.reduceSub, Nat.reduceBEq, Nat.reduceLeDiff, Nat.reduceEqDiff, ↓dreduceIte, toG, tb68_74, conDir]
           split <;> (rename_i hb; with_reducible refine hR _ ?_; clear hR R; try simp only [hb]; try simp only [decide_eq_true_eq, decide_eq_false_iff_not, beq_iff_eq, beq_eq_false_iff_ne, bne_iff_ne, bne_eq_false_iff_eq, Bool.not_eq_true, Bool.not_eq_false, Bool.not_eq_eq_eq_not, Bool.not_true, Bool.not_false, ne_eq, Int.not_lt, Int.not_le, eq_self, not_true_eq_false, not_false_eq_true, decide_true, decide_false, Bool.and_eq_true, Bool.or_eq_true, Bool.and_eq_false_iff, Bool.or_eq_false_iff, gt_iff_lt, ge_iff_le, Bool.false_eq_true, Bool.true_eq_false, reduceCtorEq, or_false, false_or, or_true, true_or, false_and, and_false] at hb; try (exfalso; omega)))
        | (with_reducible refine kon_cond fun R1 R2 h1 h2 => ?_
           dsimp only [go_sem]
           first
             | (with_reducible refine h1 ?_; clear h1 h2 R1 R2)
             | (with_reducible refine h2 ?_; clear h1 h2 R1 R2)
             | (split <;> rename_i hb <;> first
                 | (with_reducible refine h1 ?_; clear h1 h2 R1 R2; try simp only [hb]; try simp only [decide_eq_true_eq, decide_eq_false_iff_not, beq_iff_eq, beq_eq_false_iff_ne, bne_iff_ne, bne_eq_false_iff_eq, Bool.not_eq_true, Bool.not_eq_false, Bool.not_eq_eq_eq_not, Bool.not_true, Bool.not_false, ne_eq, Int.not_lt, Int.not_le, eq_self, not_true_eq_false, not_false_eq_true, decide_true, decide_false, Bool.and_eq_true, Bool.or_eq_true, Bool.and_eq_false_iff, Bool.or_eq_false_iff, gt_iff_lt, ge_iff_le, Bool.false_eq_true, Bool.true_eq_false, reduceCtorEq, or_false, false_or, or_true, true_or, false_and, and_false] at hb; try (exfalso; omega))
                 | (with_reducible refine h2 ?_; clear h1 h2 R1 R2; try simp only [hb]; try simp only [decide_eq_true_eq, decide_eq_false_iff_not, beq_iff_eq, beq_eq_false_iff_ne, bne_iff_ne, bne_eq_false_iff_eq, Bool.not_eq_true, Bool.not_eq_false, Bool.not_eq_eq_eq_not, Bool.not_true, Bool.not_false, ne_eq, Int.not_lt, Int.not_le, eq_self, not_true_eq_false, not_false_eq_true, decide_true, decide_false, Bool.and_eq_true, Bool.or_eq_true, Bool.and_eq_false_iff, Bool.or_eq_false_iff, gt_iff_lt, ge_iff_le, Bool.false_eq_true, Bool.true_eq_false, reduceCtorEq, or_false, false_or, or_true, true_or, false_and, and_false] at hb; try (exfalso; omega))))
        | (with_reducible refine kon_rounds (a := lp68_0) [0, 3, 12, 13] (fun n9 s9 => ∃ (i : Int) (rs : List (List Bool)), ((0 ≤ i) ∧ (i ≤ l.length) ∧ (rs.length = i) ∧ (rs = rowsB l i.toNat)) ∧ n9 = (l.length - i).toNat ∧ s9.m = [.row 0 .bools rs] ∧ s9.t = [.sl .rcd l, nth s9.t 1, nth s9.t 2, .ms 0 0 0 rs.length, nth s9.t 4, nth s9.t 5, nth s9.t 6, nth s9.t 7, nth s9.t 8, nth s9.t 9, nth s9.t 10, nth s9.t 11, .int .i64 l.length, .int .i64 i, nth s9.t 14, nth s9.t 15, nth s9.t 16, nth s9.t 17, nth s9.t 18, nth s9.t 19, nth s9.t 20, nth s9.t 21, nth s9.t 22, nth s9.t 23, nth s9.t 24, nth s9.t 25, nth s9.t 26, nth s9.t 27, nth s9.t 28, nth s9.t 29, nth s9.t 30, nth s9.t 31, nth s9.t 32, nth s9.t 33, nth s9.t 34, nth s9.t 35, nth s9.t 36, nth s9.t 37, nth s9.t 38, nth s9.t 39, nth s9.t 40, nth s9.t 41, nth s9.t 42, nth s9.t 43, nth s9.t 44, nth s9.t 45, nth s9.t 46, nth s9.t 47, nth s9.t 48, nth s9.t 49, nth s9.t 50, nth s9.t 51, nth s9.t 52, nth s9.t 53, nth s9.t 54, nth s9.t 55, nth s9.t 56, nth s9.t 57]) ?_ ?_
           all_goals first
             | (rintro n9 ⟨t9, m9⟩ ⟨i, rs, ⟨hI0, hI1, hI2, hI3⟩, rfl, hm9, ht9⟩
                dsimp only at hm9 ht9
                subst hm9
                rw [ht9]
                clear ht9
                dsimp only [lp68_0])
             | (dsimp only [go_sem, Nat.reduceAdd, Nat.reduceMul, Nat.reduceSub, Nat.reduceBEq, Nat.reduceLeDiff, Nat.reduceEqDiff, ↓dreduceIte, toG, tb68_74, conDir]
                refine ⟨_, _, _, ⟨?_, ?_, ?_, ?_⟩, rfl, rfl, rfl⟩))
        | (with_reducible refine loop_again (keep := [0, 3, 12, 13]) ?_
           dsimp only [go_sem, Nat.reduceAdd, Nat.reduceMul, Nat.reduceSub, Nat.reduceBEq, Nat.reduceLeDiff, Nat.reduceEqDiff, ↓dreduceIte, toG, tb68_74, conDir]
           refine ⟨_, ?_, _, _, ⟨?_, ?_, ?_, ?_⟩, rfl, rfl, rfl⟩)
        | (with_reducible refine kon_rounds (a := lp68_1) [0, 3, 5, 12, 13, 21, 22, 23] (fun n9 s9 => ∃ (j : Int) (own : List Bool), ((0 ≤ j) ∧ (j ≤ (dirB l i).length) ∧ (own.length = l.length) ∧ (own = (dirs l i j).foldl (rowStep rs) (List.replicate l.length false)) ∧ ((dirB l i).length ≤ 2) ∧ (j < (dirB l i).length → 0 ≤ rd (dirB l i) j ∧ rd (dirB l i) j < i) ∧ (j < (dirB l i).length → (rd rs (rd (dirB l i) j)).length = l.length) ∧ (0 ≤ i ∧ i < l.length ∧ rs.length = i) ∧ (rs = rowsB l i.toNat)) ∧ n9 = ((dirB l i).length - j).toNat ∧ s9.m = [.row 0 .bools rs, .row 0 .bool own, .row 0 .int (dirB l i)] ∧ s9.t = [.sl .rcd l, nth s9.t 1, nth s9.t 2, .ms 0 0 0 rs.length, nth s9.t 4, .ms 1 0 0 l.length, nth s9.t 6, nth s9.t 7, nth s9.t 8, nth s9.t 9, nth s9.t 10, nth s9.t 11, .int .i64 l.length, .int .i64 i, nth s9.t 14, nth s9.t 15, nth s9.t 16, nth s9.t 17, nth s9.t 18, nth s9.t 19, nth s9.t 20, .ms 2 0 0 (dirB l i).length, .int .i64 (dirB l i).length, .int .i64 j, nth s9.t 24, nth s9.t 25, nth s9.t 26, nth s9.t 27, nth s9.t 28, nth s9.t 29, nth s9.t 30, nth s9.t 31, nth s9.t 32, nth s9.t 33, nth s9.t 34, nth s9.t 35, nth s9.t 36, nth s9.t 37, nth s9.t 38, nth s9.t 39, nth s9.t 40, nth s9.t 41, nth s9.t 42, nth s9.t 43, nth s9.t 44, nth s9.t 45, nth s9.t 46, nth s9.t 47, nth s9.t 48, nth s9.t 49, nth s9.t 50, nth s9.t 51, nth s9.t 52, nth s9.t 53, nth s9.t 54, nth s9.t 55, nth s9.t 56, nth s9.t 57]) ?_ ?_
           all_goals first
             | (rintro n9 ⟨t9, m9⟩ ⟨j, own, ⟨hI0, hI1, hI2, hI3, hI4, hI5, hI6, hI7, hI8⟩, rfl, hm9, ht9⟩
                dsimp only at hm9 ht9
                subst hm9
                rw [ht9]
                clear ht9
                dsimp only [lp68_1])
             | (dsimp only [go_sem, Nat.reduceAdd, Nat.reduceMul, Nat.reduceSub, Nat.reduceBEq, Nat.reduceLeDiff, Nat.reduceEqDiff, ↓dreduceIte, toG, tb68_74, conDir]
                refine ⟨_, _, _, ⟨?_, ?_, ?_, ?_, ?_, ?_, ?_, ?_, ?_⟩, rfl, rfl, rfl⟩))
        | (with_reducible refine loop_again (keep := [0, 3, 5, 12, 13, 21, 22, 23]) ?_
           dsimp only [go_sem, Nat.reduceAdd, Nat.reduceMul, Nat.reduceSub, Nat.reduceBEq, Nat.reduceLeDiff, Nat.reduceEqDiff, ↓dreduceIte, toG, tb68_74, conDir]
           refine ⟨_, ?_, _, _, ⟨?_, ?_, ?_, ?_, ?_, ?_, ?_, ?_, ?_⟩, rfl, rfl, rfl⟩)
        | (with_reducible refine kon_rounds (a := lp68_2) [0, 3, 5, 12, 13, 21, 22, 23, 33, 34, 35] (fun n9 s9 => ∃ (m : Int) (o : List Bool), ((0 ≤ m) ∧ (m ≤ l.length) ∧ (o.length = l.length) ∧ ((rd rs (rd (dirB l i) j)).length = l.length) ∧ (o = orPart (own.set (rd (dirB l i) j).toNat true) (rd rs (rd (dirB l i) j)) m) ∧ (own.length = l.length) ∧ (own = (dirs l i j).foldl (rowStep rs) (List.replicate l.length false)) ∧ ((dirB l i).length ≤ 2) ∧ (0 ≤ j ∧ j < (dirB l i).length ∧ 0 ≤ i ∧ i < l.length ∧ rs.length = i) ∧ (rs = rowsB l i.toNat)) ∧ n9 = (l.length - m).toNat ∧ s9.m = [.row 0 .bools rs, .row 0 .bool o, .row 0 .int (dirB l i)] ∧ s9.t = [.sl .rcd l, nth s9.t 1, nth s9.t 2, .ms 0 0 0 rs.length, nth s9.t 4, .ms 1 0 0 l.length, nth s9.t 6, nth s9.t 7, nth s9.t 8, nth s9.t 9, nth s9.t 10, nth s9.t 11, .int .i64 l.length, .int .i64 i, nth s9.t 14, nth s9.t 15, nth s9.t 16, nth s9.t 17, nth s9.t 18, nth s9.t 19, nth s9.t 20, .ms 2 0 0 (dirB l i).length, .int .i64 (dirB l i).length, .int .i64 j, nth s9.t 24, nth s9.t 25, nth s9.t 26, nth s9.t 27, nth s9.t 28, nth s9.t 29, nth s9.t 30, nth s9.t 31, nth s9.t 32, .sl .bool (rd rs (rd (dirB l i) j)), .int .i64 (rd rs (rd (dirB l i) j)).length, .int .i64 m, nth s9.t 36, nth s9.t 37, nth s9.t 38, nth s9.t 39, nth s9.t 40, nth s9.t 41, nth s9.t 42, nth s9.t 43, nth s9.t 44, nth s9.t 45, nth s9.t 46, nth s9.t 47, nth s9.t 48, nth s9.t 49, nth s9.t 50, nth s9.t 51, nth s9.t 52, nth s9.t 53, nth s9.t 54, nth s9.t 55, nth s9.t 56, nth s9.t 57]) ?_ ?_
           all_goals first
             | (rintro n9 ⟨t9, m9⟩ ⟨m, o, ⟨hI0, hI1, hI2, hI3, hI4, hI5, hI6, hI7, hI8, hI9⟩, rfl, hm9, ht9⟩
                dsimp only at hm9 ht9
                subst hm9
                rw [ht9]
                clear ht9
                dsimp only [lp68_2])
             | (dsimp only [go_sem, Nat.reduceAdd, Nat.reduceMul, Nat.reduceSub, Nat.reduceBEq, Nat.reduceLeDiff, Nat.reduceEqDiff, ↓dreduceIte, toG, tb68_74, conDir]
                refine ⟨_, _, _, ⟨?_, ?_, ?_, ?_, ?_, ?_, ?_, ?_, ?_, ?_⟩, rfl, rfl, rfl⟩))
        | (with_reducible refine loop_again (keep := [0, 3, 5, 12, 13, 21, 22, 23, 33, 34, 35]) ?_
           dsimp only [go_sem, Nat.reduceAdd, Nat.reduceMul, Nat.reduceSub, Nat.reduceBEq, Nat.reduceLeDiff, Nat.reduceEqDiff, ↓dreduceIte, toG, tb68_74, conDir]
           refine ⟨_, ?_, _, _, ⟨?_, ?_, ?_, ?_, ?_, ?_, ?_, ?_, ?_, ?_⟩, rfl, rfl, rfl⟩)
      all_goals first
        | (dsimp only [kon]
           with_reducible refine hQ _ _ _ ?_
           dsimp only [kon, endQ, af68, conPasts, go_sem, Nat.reduceAdd, Nat.reduceMul, Nat.reduceSub, Nat.reduceBEq, Nat.reduceLeDiff, Nat.reduceEqDiff, ↓dreduceIte, toG, tb68_74, conDir]
           try simp (disch := first | omega | (simp only [List.length_set, List.length_append, List.length_cons, List.length_nil, List.length_replicate]; omega)) only [guardP_T, guardP_pos, iteN, rd_set, List.set_set, List.length_set, eta_fact, eta_rumor, eta_doubt, eta_item, eta_rec, eta_due, look, look0, rd_toNat, wrap64, Int.toNat_natCast, Nat.zero_add, List.take_length, List.drop_zero, and_self, setB_len, true_and, and_true]
           try dsimp only [go_sem, Nat.reduceAdd, Nat.reduceMul, Nat.reduceSub, Nat.reduceBEq, Nat.reduceLeDiff, Nat.reduceEqDiff, ↓dreduceIte, toG, tb68_74, conDir])
        | skip
      all_goals try first
        | omega
        | (simp; done)
        | (simp; omega)
      all_goals first
        | omega
        | rfl
        | exact dirB_length l i
        | (intro hj; exact dir_at (by omega) (by omega) hj)
        | (intro hj
           have hd := dir_at (l := l) (i := i) (by omega) (by omega) hj
           simp_all only []
           exact row_at (by omega) hd.1 hd.2)
        | (intro hj
           have hd := dir_at (l := l) (i := i) (by omega) (by omega) hj
           rw [hI3]
           exact row_at (by omega) hd.1 hd.2)
        | (intro hj
           have hd := dir_at (l := l) (i := i) (by omega) (by omega) hj
           rw [hI9]
           exact row_at (by omega) hd.1 hd.2)
        | (simp [dirs]; done)
        | (rw [orPart_zero]; done)
        | (rw [← orPart_step hI0 (by simp; omega) (by simp; omega), ← hI4, hb, Bool.true_or])
        | (rw [← orPart_step hI0 (by simp; omega) (by simp; omega), ← hI4, hb, Bool.false_or])
        | (rw [hI4, orPart_all (by simp; omega) (by omega), dirs_step hI8.1 hI8.2.1, ← hI6]; rfl)
        | (rw [rows_step (by omega), ← hI8, List.take_of_length_le (by omega), hI3]
           unfold dirs
           rw [take_all (by omega)]
           rfl)
        | (rw [hI3, show i.toNat = l.length by omega]; done)
    · simp at h'

end Go.Proofs.Ytpinkajnaeacdaa
