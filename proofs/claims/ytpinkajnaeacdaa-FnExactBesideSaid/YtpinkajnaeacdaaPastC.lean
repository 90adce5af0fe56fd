/- What can have come of what: marks on what is ahead. -/
import Derived.Test.YtpinkajnaeacdaaPastB
namespace Go.Proofs.Ytpinkajnaeacdaa
set_option linter.unusedVariables false
set_option linter.unusedSimpArgs false
set_option linter.unnecessarySimpa false

theorem markAll_step {ms : List Bool} {ds : List Int} {j : Int} (h0 : 0 ≤ j) (h1 : j < ds.length) : markAll ms (ds.take (j + 1).toNat) = (markAll ms (ds.take j.toNat)).set (rd ds j).toNat true := by
  unfold markAll
  rw [take_rd h0 h1, List.foldl_append]
  rfl

theorem markGo_yes {l : List Rec} {k : Int} {ms : List Bool} (h0 : 0 ≤ k) (h : rd ms k = true) : markGo l (k + 1).toNat ms = markGo l k.toNat (markAll ms (dirB l k)) := by
  rw [succ_toNat h0, markGo, show ((k.toNat : Nat) : Int) = k by omega, if_pos h]

theorem markGo_no {l : List Rec} {k : Int} {ms : List Bool} (h0 : 0 ≤ k) (h : rd ms k = false) : markGo l (k + 1).toNat ms = markGo l k.toNat ms := by
  rw [succ_toNat h0, markGo, show ((k.toNat : Nat) : Int) = k by omega, h]
  rfl

theorem markAll_length (ms : List Bool) (ds : List Int) : (markAll ms ds).length = ms.length := by
  induction ds generalizing ms with
  | nil => rfl
  | cons d ds ih =>
    have e : markAll ms (d :: ds) = markAll (ms.set d.toNat true) ds := rfl
    rw [e, ih]
    simp

def tb66 : Tab := fun f => match f with
  | 103 => some conDir
  | _ => none

theorem tb66_103 : tb66 103 = some conDir := rfl

-- loop.example/g00678/spec.l15Past hows []
def lp66_1 : AC := .seq (.seq (.reg [⟨some 28, .mv (.t 8), none⟩,
              ⟨some 29, .mv (.t 7), none⟩,
              ⟨some 30, .len (.t 29), none⟩,
              ⟨some 31, .bin .lss (.t 28) (.t 30), none⟩])
            (.cond (.t 31)
              (.skip)
              (.exit 2)))
            (.seq (.block 3 (.reg [⟨some 34, .mv (.t 5), none⟩,
                ⟨some 35, .mv (.t 7), none⟩,
                ⟨some 36, .mv (.t 8), none⟩,
                ⟨some 37, .ia .int (.t 35) (.t 36), none⟩,
                ⟨some 38, .ld false 1 (.t 37), none⟩,
                ⟨some 39, .ia .bool (.t 34) (.t 38), none⟩,
                ⟨none, .st 1 (.t 39) (.b true), none⟩]))
            (.reg [⟨some 32, .mv (.t 8), none⟩,
              ⟨some 33, .bin .add (.t 32) (.i 1), none⟩,
              ⟨some 8, .mv (.t 33), none⟩]))
def lp66_0 : AC := .seq (.seq (.reg [⟨some 16, .mv (.t 6), none⟩,
        ⟨some 17, .bin .geq (.t 16) (.i 0), none⟩])
      (.cond (.t 17)
        (.skip)
        (.exit 0)))
      (.seq (.block 1 (.seq (.seq (.reg [⟨some 20, .mv (.t 5), none⟩,
          ⟨some 21, .mv (.t 6), none⟩,
          ⟨some 22, .ia .bool (.t 20) (.t 21), none⟩,
          ⟨some 23, .ld false 1 (.t 22), none⟩,
          ⟨some 24, .un .not (.t 23), none⟩])
        (.cond (.t 24)
          (.exit 1)
          (.skip)))
        (.seq (.reg [⟨some 25, .mv (.t 0), none⟩,
          ⟨some 26, .mv (.t 6), none⟩,
          ⟨some 27, .call 103 [(.t 25), (.t 26)], none⟩,
          ⟨some 7, .mv (.t 27), none⟩])
        (.seq (.reg [⟨some 8, .mv (.i 0), none⟩])
        (.block 2 (.loop lp66_1))))))
      (.reg [⟨some 18, .mv (.t 6), none⟩,
        ⟨some 19, .bin .sub (.t 18) (.i 1), none⟩,
        ⟨some 6, .mv (.t 19), none⟩]))
def af66 : AF := ⟨44, [.t 4],
  .seq (.reg [⟨some 4, .mv (.c (.nil)), none⟩])
  (.seq (.reg [⟨some 9, .mv (.t 0), none⟩,
    ⟨some 10, .len (.t 9), none⟩,
    ⟨some 11, .mk .bool (zeroK .bool) (.t 10) (.t 10), none⟩,
    ⟨some 5, .mv (.t 11), none⟩])
  (.seq (.reg [⟨some 12, .mv (.t 5), none⟩,
    ⟨some 13, .mv (.t 1), none⟩,
    ⟨some 14, .ia .bool (.t 12) (.t 13), none⟩,
    ⟨none, .st 1 (.t 14) (.b true), none⟩])
  (.seq (.seq (.reg [⟨some 15, .mv (.t 1), none⟩,
    ⟨some 6, .mv (.t 15), none⟩])
  (.block 0 (.loop lp66_0)))
  (.seq (.reg [⟨some 40, .mv (.t 5), none⟩,
    ⟨some 41, .mv (.t 1), none⟩,
    ⟨some 42, .ia .bool (.t 40) (.t 41), none⟩,
    ⟨none, .st 1 (.t 42) (.b false), none⟩])
  (.seq (.reg [⟨some 43, .mv (.t 5), none⟩,
    ⟨some 4, .mv (.t 43), none⟩])
  (.ret))))))⟩

set_option maxHeartbeats 4000000 in
theorem does66 (as : List AV) (hok : ok 64 as) : Does tb66 af66 conPast as := by
  cases h : (conPast).run as with
  | none => exact does_none h
  | some out =>
    have h' := h
    simp only [conPast] at h'
    split at h'
    · rename_i l i
      by_cases hp : 0 ≤ i ∧ i < l.length ∧ l.length ≤ 400
      case neg => simp [guardP, hp] at h'
      rw [guardP_pos hp] at h'
      obtain ⟨hp1, hp2, hp3⟩ := hp
      simp only [ok] at hok
      obtain ⟨⟨hlen, _⟩, _⟩ := hok
      simp only [Option.some.injEq] at h'
      subst h'
      have hmo : (most : Int) = 1099511627776 := rfl
      have hml : (maxLen : Int) = 9223372036854775807 := rfl
      with_reducible refine does_by h fun Q hQ => ?_
      clear h
      dsimp only [af66, conPast, go_sem, Nat.reduceAdd, Nat.reduceMul, Nat.reduceSub, Nat.reduceBEq, Nat.reduceLeDiff, Nat.reduceEqDiff, ↓dreduceIte, toG, tb66_103, conDir]
      repeat' first
        | with_reducible refine kon_seq ?_
        | with_reducible refine kon_nil ?_
        | with_reducible refine kon_skip ?_
        | with_reducible refine kon_block ?_
        | with_reducible refine kon_ret ?_
        | with_reducible refine kon_exit ?_
        | with_reducible refine kon_past_ret ?_
        | with_reducible refine kon_past_exit ?_
        | with_reducible refine kon_blk_ret ?_
        | with_reducible refine kon_blk_end ?_
        | with_reducible refine kon_blk_exit ?_
        | (with_reducible refine kon_blk_past ?_ ?_
           · decide)
        | with_reducible refine loop_exit ?_
        | with_reducible refine loop_ret ?_
        | with_reducible refine mid_exit ?_
        | with_reducible refine mid_ret ?_
        | (with_reducible refine kon_bin fun R hR => ?_
           dsimp only [go_sem, Nat.reduceAdd, Nat.reduceMul, Nat.reduceSub, Nat.reduceBEq, Nat.reduceLeDiff, Nat.reduceEqDiff, ↓dreduceIte, toG, tb66_103, conDir]
           try simp (disch := first | omega | (simp only [List.length_set, List.length_append, List.length_cons, List.length_nil, List.length_replicate]; omega)) only [guardP_T, guardP_pos, iteN, rd_set, List.set_set, List.length_set, eta_fact, eta_rumor, eta_doubt, eta_item, eta_rec, eta_due, look, look0, rd_toNat, wrap64, Int.toNat_natCast, Nat.zero_add, List.take_length, List.drop_zero, and_self, setB_len, true_and, and_true]
           with_reducible refine hR _ ?_
           clear hR R)
        | (with_reducible refine kon_conv fun R hR => ?_
           dsimp only [go_sem, Nat.reduceAdd, Nat.reduceMul, Nat.reduceSub, Nat.reduceBEq, Nat.reduceLeDiff, Nat.reduceEqDiff, ↓dreduceIte, toG, tb66_103, conDir]
           try simp (disch := first | omega | (simp only [List.length_set, List.length_append, List.length_cons, List.length_nil, List.length_replicate]; omega)) only [guardP_T, guardP_pos, iteN, rd_set, List.set_set, List.length_set, eta_fact, eta_rumor, eta_doubt, eta_item, eta_rec, eta_due, look, look0, rd_toNat, wrap64, Int.toNat_natCast, Nat.zero_add, List.take_length, List.drop_zero, and_self, setB_len, true_and, and_true]
           with_reducible refine hR _ ?_
           clear hR R)
        | (with_reducible refine kon_ins fun R hR => ?_
           dsimp only [go_sem, Nat.reduceAdd, Nat.reduceMul, Nat.reduceSub, Nat.reduceBEq, Nat.reduceLeDiff, Nat.reduceEqDiff, ↓dreduceIte, toG, tb66_103, conDir]
           first
             | with_reducible refine hR _ ?_
             | (simp (disch := first | omega | (simp only [List.length_set, List.length_append, List.length_cons, List.length_nil, List.length_replicate]; omega)) only [guardP_T, guardP_pos, iteN, rd_set, List.set_set, List.length_set, eta_fact, eta_rumor, eta_doubt, eta_item, eta_rec, eta_due, look, look0, rd_toNat, wrap64, Int.toNat_natCast, Nat.zero_add, List.take_length, List.drop_zero, and_self, setB_len, true_and, and_true]
                try dsimp only [go_sem, Nat.reduceAdd, Nat.reduceMul, Nat.reduceSub, Nat.reduceBEq, Nat.reduceLeDiff, Nat.reduceEqDiff, ↓dreduceIte, toG, tb66_103, conDir]
                try simp (disch := first | omega | (simp only [List.length_set, List.length_append, List.length_cons, List.length_nil, List.length_replicate]; omega)) only [guardP_T, guardP_pos, iteN, rd_set, List.set_set, List.length_set, eta_fact, eta_rumor, eta_doubt, eta_item, eta_rec, eta_due, look, look0, rd_toNat, wrap64, Int.toNat_natCast, Nat.zero_add, List.take_length, List.drop_zero, and_self, setB_len, true_and, and_true]
                with_reducible refine hR _ ?_)
           clear hR R)
        | (with_reducible refine kon_g_run ?_ ?_
           · dsimp only [nth] <;> with_reducible rfl)
        | (with_reducible refine kon_g_skip ?_ ?_
           · dsimp only [nth, not_t', not_f'] <;> with_reducible rfl
           dsimp only [go_sem])
        | (with_reducible refine kon_g_undef ?_ ?_
           · dsimp only [nth] <;> with_reducible rfl
           dsimp only [go_sem])
        | (with_reducible refine kon_g fun R hR => ?_
           dsimp only [go_sem, Nat.reduceAdd, Nat.reduceMul, Nat.reduceSub, Nat.reduceBEq, Nat.reduceLeDiff, Nat.reduceEqDiff, ↓dreduceIte, toG, tb66_103, conDir]
           split <;> (rename_i hb; with_reducible refine hR _ ?_; clear hR R; try simp only [hb]; try simp only [decide_eq_true_eq, decide_eq_false_iff_not, beq_iff_eq, beq_eq_false_iff_ne, bne_iff_ne, bne_eq_false_iff_eq, Bool.not_eq_true, Bool.not_eq_false, Bool.not_eq_eq_eq_not, Bool.not_true, Bool.not_false, ne_eq, Int.not_lt, Int.not_le, eq_self, not_true_eq_false, not_false_eq_true, decide_true, decide_false, Bool.and_eq_true, Bool.or_eq_true, Bool.and_eq_false_iff, Bool.or_eq_false_iff, gt_iff_lt, ge_iff_le, Bool.false_eq_true, Bool.true_eq_false, reduceCtorEq, or_false, false_or, or_true, true_or, false_and, and_false] at hb; try (exfalso; omega)))
        | (with_reducible refine kon_cond fun R1 R2 h1 h2 => ?_
           dsimp only [go_sem]
           first
             | (with_reducible refine h1 ?_; clear h1 h2 R1 R2)
             | (with_reducible refine h2 ?_; clear h1 h2 R1 R2)
             | (split <;> rename_i hb <;> first
                 | (with_reducible refine h1 ?_; clear h1 h2 R1 R2; try simp only [hb]; try simp only [decide_eq_true_eq, decide_eq_false_iff_not, beq_iff_eq, beq_eq_false_iff_ne, bne_iff_ne, bne_eq_false_iff_eq, Bool.not_eq_true, Bool.not_eq_false, Bool.not_eq_eq_eq_not, Bool.not_true, Bool.not_false, ne_eq, Int.not_lt, Int.not_le, eq_self, not_true_eq_false, not_false_eq_true, decide_true, decide_false, Bool.and_eq_true, Bool.or_eq_true, Bool.and_eq_false_iff, Bool.or_eq_false_iff, gt_iff_lt, ge_iff_le, Bool.false_eq_true, Bool.true_eq_false, reduceCtorEq, or_false, false_or, or_true, true_or, false_and, and_false] at hb; try (exfalso; omega))
                 | (with_reducible refine h2 ?_; clear h1 h2 R1 R2; try simp only [hb]; try simp only [decide_eq_true_eq, decide_eq_false_iff_not, beq_iff_eq, beq_eq_false_iff_ne, bne_iff_ne, bne_eq_false_iff_eq, Bool.not_eq_true, Bool.not_eq_false, Bool.not_eq_eq_eq_not, Bool.not_true, Bool.not_false, ne_eq, Int.not_lt, Int.not_le, eq_self, not_true_eq_false, not_false_eq_true, decide_true, decide_false, Bool.and_eq_true, Bool.or_eq_true, Bool.and_eq_false_iff, Bool.or_eq_false_iff, gt_iff_lt, ge_iff_le, Bool.false_eq_true, Bool.true_eq_false, reduceCtorEq, or_false, false_or, or_true, true_or, false_and, and_false] at hb; try (exfalso; omega))))
        | (with_reducible refine kon_rounds (a := lp66_0) [0, 1, 5, 6] (fun n9 s9 => ∃ (k : Int) (o : List Bool), ((-1 ≤ k) ∧ (k ≤ i) ∧ (o.length = l.length) ∧ (markGo l (i + 1).toNat ((List.replicate l.length false).set i.toNat true) = markGo l (k + 1).toNat o)) ∧ n9 = (k + 1).toNat ∧ s9.m = [.row 0 .bool o] ∧ s9.t = [.sl .rcd l, .int .i64 i, nth s9.t 2, nth s9.t 3, nth s9.t 4, .ms 0 0 0 l.length, .int .i64 k, nth s9.t 7, nth s9.t 8, nth s9.t 9, nth s9.t 10, nth s9.t 11, nth s9.t 12, nth s9.t 13, nth s9.t 14, nth s9.t 15, nth s9.t 16, nth s9.t 17, nth s9.t 18, nth s9.t 19, nth s9.t 20, nth s9.t 21, nth s9.t 22, nth s9.t 23, nth s9.t 24, nth s9.t 25, nth s9.t 26, nth s9.t 27, nth s9.t 28, nth s9.t 29, nth s9.t 30, nth s9.t 31, nth s9.t 32, nth s9.t 33, nth s9.t 34, nth s9.t 35, nth s9.t 36, nth s9.t 37, nth s9.t 38, nth s9.t 39, nth s9.t 40, nth s9.t 41, nth s9.t 42, nth s9.t 43]) ?_ ?_
           all_goals first
             | (rintro n9 ⟨t9, m9⟩ ⟨k, o, ⟨hI0, hI1, hI2, hI3⟩, rfl, hm9, ht9⟩
                dsimp only at hm9 ht9
                subst hm9
                rw [ht9]
                clear ht9
                dsimp only [lp66_0])
             | (dsimp only [go_sem, Nat.reduceAdd, Nat.reduceMul, Nat.reduceSub, Nat.reduceBEq, Nat.reduceLeDiff, Nat.reduceEqDiff, ↓dreduceIte, toG, tb66_103, conDir]
                refine ⟨_, _, _, ⟨?_, ?_, ?_, ?_⟩, rfl, rfl, rfl⟩))
        | (with_reducible refine loop_again (keep := [0, 1, 5, 6]) ?_
           dsimp only [go_sem, Nat.reduceAdd, Nat.reduceMul, Nat.reduceSub, Nat.reduceBEq, Nat.reduceLeDiff, Nat.reduceEqDiff, ↓dreduceIte, toG, tb66_103, conDir]
           refine ⟨_, ?_, _, _, ⟨?_, ?_, ?_, ?_⟩, rfl, rfl, rfl⟩)
        | (with_reducible refine kon_rounds (a := lp66_1) [0, 1, 5, 6, 7, 8] (fun n9 s9 => ∃ (j : Int) (o2 : List Bool), ((0 ≤ j) ∧ (j ≤ (dirB l k).length) ∧ (o2.length = l.length) ∧ (o2 = markAll o ((dirB l k).take j.toNat)) ∧ ((dirB l k).length ≤ 2) ∧ (j < (dirB l k).length → 0 ≤ rd (dirB l k) j ∧ rd (dirB l k) j < k) ∧ (0 ≤ k ∧ k ≤ i) ∧ (rd o k = true) ∧ (markGo l (i + 1).toNat ((List.replicate l.length false).set i.toNat true) = markGo l (k + 1).toNat o)) ∧ n9 = ((dirB l k).length - j).toNat ∧ s9.m = [.row 0 .bool o2, .row 0 .int (dirB l k)] ∧ s9.t = [.sl .rcd l, .int .i64 i, nth s9.t 2, nth s9.t 3, nth s9.t 4, .ms 0 0 0 l.length, .int .i64 k, .ms 1 0 0 (dirB l k).length, .int .i64 j, nth s9.t 9, nth s9.t 10, nth s9.t 11, nth s9.t 12, nth s9.t 13, nth s9.t 14, nth s9.t 15, nth s9.t 16, nth s9.t 17, nth s9.t 18, nth s9.t 19, nth s9.t 20, nth s9.t 21, nth s9.t 22, nth s9.t 23, nth s9.t 24, nth s9.t 25, nth s9.t 26, nth s9.t 27, nth s9.t 28, nth s9.t 29, nth s9.t 30, nth s9.t 31, nth s9.t 32, nth s9.t 33, nth s9.t 34, nth s9.t 35, nth s9.t 36, nth s9.t 37, nth s9.t 38, nth s9.t 39, nth s9.t 40, nth s9.t 41, nth s9.t 42, nth s9.t 43]) ?_ ?_
           all_goals first
             | (rintro n9 ⟨t9, m9⟩ ⟨j, o2, ⟨hI0, hI1, hI2, hI3, hI4, hI5, hI6, hI7, hI8⟩, rfl, hm9, ht9⟩
                dsimp only at hm9 ht9
                subst hm9
                rw [ht9]
                clear ht9
                dsimp only [lp66_1])
             | (dsimp only [go_sem, Nat.reduceAdd, Nat.reduceMul, Nat.reduceSub, Nat.reduceBEq, Nat.reduceLeDiff, Nat.reduceEqDiff, ↓dreduceIte, toG, tb66_103, conDir]
                refine ⟨_, _, _, ⟨?_, ?_, ?_, ?_, ?_, ?_, ?_, ?_, ?_⟩, rfl, rfl, rfl⟩))
        | (with_reducible refine loop_again (keep := [0, 1, 5, 6, 7, 8]) ?_
           dsimp only [go_sem, Nat.reduceAdd, Nat.reduceMul, Nat.reduceSub, Nat.reduceBEq, Nat.reduceLeDiff, Nat.reduceEqDiff, ↓dreduceIte, toG, tb66_103, conDir]
           refine ⟨_, ?_, _, _, ⟨?_, ?_, ?_, ?_, ?_, ?_, ?_, ?_, ?_⟩, rfl, rfl, rfl⟩)
      all_goals first
        | (dsimp only [kon]
           with_reducible refine hQ _ _ _ ?_
           dsimp only [kon, endQ, af66, conPast, go_sem, Nat.reduceAdd, Nat.reduceMul, Nat.reduceSub, Nat.reduceBEq, Nat.reduceLeDiff, Nat.reduceEqDiff, ↓dreduceIte, toG, tb66_103, conDir]
           try simp (disch := first | omega | (simp only [List.length_set, List.length_append, List.length_cons, List.length_nil, List.length_replicate]; omega)) only [guardP_T, guardP_pos, iteN, rd_set, List.set_set, List.length_set, eta_fact, eta_rumor, eta_doubt, eta_item, eta_rec, eta_due, look, look0, rd_toNat, wrap64, Int.toNat_natCast, Nat.zero_add, List.take_length, List.drop_zero, and_self, setB_len, true_and, and_true]
           try dsimp only [go_sem, Nat.reduceAdd, Nat.reduceMul, Nat.reduceSub, Nat.reduceBEq, Nat.reduceLeDiff, Nat.reduceEqDiff, ↓dreduceIte, toG, tb66_103, conDir])
        | skip
      all_goals try first
        | omega
        | (simp; done)
        | (simp; omega)
      all_goals first
        | omega
        | exact dirB_length l k
        | (intro hj; exact dir_at (by omega) (by omega) hj)
        | (rw [markAll_step (by omega) (by omega), ← hI3]; done)
        | (rw [hI8, markGo_yes hI6.1 hI7, hI3, take_all (by omega), show k - 1 + 1 = k by omega]; done)
        | (rw [hI3, markGo_no (by omega) (by assumption), show k - 1 + 1 = k by omega]; done)
        | (simp only [List.length_set]; omega)
        | (simp [markAll]; done)
        | assumption
        | (unfold pastS
           rw [← succ_toNat hp1, hI3, show k = -1 by omega]
           rfl)
    · simp at h'

end Go.Proofs.Ytpinkajnaeacdaa
