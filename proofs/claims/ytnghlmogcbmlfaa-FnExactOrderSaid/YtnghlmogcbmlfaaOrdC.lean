/- The order of places: both sides. -/
import Derived.Test.YtnghlmogcbmlfaaOrdB
namespace Go.Proofs.Ytnghlmogcbmlfaa
set_option linter.unusedVariables false
set_option linter.unusedSimpArgs false
set_option linter.unnecessarySimpa false

theorem ord_next {l : List Rec} {w : List Bool} {o : List Int} {x : Int} {E : List Int} (hx : pick l w = x) (h : o.length < l.length) (he : ordF l (l.length - o.length) w o = E) : ordF l (l.length - (o ++ [x]).length) (w.set x.toNat true) (o ++ [x]) = E := by
  rw [← he, ordF_step h, hx]

theorem trues_next {l : List Rec} {w : List Bool} {o : List Int} {x : Int} (hx : pick l w = x) (h0 : 0 ≤ pick l w) (h1 : pick l w < l.length) (hw : w.length = l.length) (hf : rd w (pick l w) = false) (ht : trues w = o.length) : trues (w.set x.toNat true) = (o ++ [x]).length := by
  subst hx
  rw [trues_set h0 (by omega) hf, ht]
  simp

theorem ord_done {l : List Rec} {w : List Bool} {o : List Int} (h : l.length ≤ o.length) (hm : recM l = 1) (h4 : l.length ≤ 400) (he : ordF l (l.length - o.length) w o = ordF l l.length (List.replicate l.length false) []) : o = orderR l := by
  have hr : recsOk l = true := by rw [recM_iff]; exact ⟨hm, h4⟩
  rw [orderR, if_pos hr, ← he, ordF_end h]

theorem ord_none {l : List Rec} (h : recM l = 0) : orderR l = [] := by
  rw [← recM_no] at h
  simp [orderR, h]

theorem pick_go {l : List Rec} {w : List Bool} {o : List Int} (hm : recM l = 1) (h4 : l.length ≤ 400) (hw : w.length = l.length) (ht : trues w = o.length) (ho : o.length < l.length) : 0 ≤ pick l w ∧ pick l w < l.length ∧ rd w (pick l w) = false :=
  pick_ok (by rw [recM_iff]; exact ⟨hm, h4⟩) hw (by omega)

theorem take_ge {α : Type} {a : List α} {n : Nat} (h : a.length ≤ n) : a.take n = a := List.take_of_length_le h

section
variable {l : List Rec} {w : List Bool} {q i : Int}
theorem pick_found (h15 : firstU l w q = fU l w q (l.length - i).toNat i) (hi : i < l.length) (hq : q ≤ 6) (h0 : 0 ≤ i) (hn : (rd l i).node = q) (hw : rd w i = false) (hd : dirsTold l w i = true) (hp : pick l w = pickF l w (7 - q).toNat q) : pick l w = i := by
  have hf : firstU l w q = i := by rw [h15, fU_step hi, if_pos ⟨hw, hn⟩]
  have hr : readyS l w q = i := by
    unfold readyS
    rw [hf, if_pos ⟨h0, hd⟩]
  rw [hp, pick_step hq, hr, if_pos h0]

theorem pick_wait (h15 : firstU l w q = fU l w q (l.length - i).toNat i) (hi : i < l.length) (hq : q ≤ 6) (h0 : 0 ≤ i) (hn : (rd l i).node = q) (hw : rd w i = false) (hd : dirsTold l w i = false) (hp : pick l w = pickF l w (7 - q).toNat q) : pick l w = pickF l w (7 - (q + 1)).toNat (q + 1) := by
  have hf : firstU l w q = i := by rw [h15, fU_step hi, if_pos ⟨hw, hn⟩]
  have hr : readyS l w q = -1 := by
    unfold readyS
    rw [hf, if_neg (fun h => by rw [hd] at h; cases h.2)]
  rw [hp, pick_step hq, hr, if_neg (by omega)]

theorem pick_none (h15 : firstU l w q = fU l w q (l.length - i).toNat i) (hi : (l.length : Int) ≤ i) (hq : q ≤ 6) (hp : pick l w = pickF l w (7 - q).toNat q) : pick l w = pickF l w (7 - (q + 1)).toNat (q + 1) := by
  have hf : firstU l w q = -1 := by rw [h15, fU_end hi]
  have hr : readyS l w q = -1 := by
    unfold readyS
    rw [hf, if_neg (by omega)]
  rw [hp, pick_step hq, hr, if_neg (by omega)]
end

theorem pick_6 (l : List Rec) (w : List Bool) : pick l w = pickF l w (7 - (1 : Int)).toNat 1 := rfl

def tb21 : Tab := fun f => match f with
  | 70 => some conRecsOk
  | 71 => some conReady
  | _ => none

theorem tb21_70 : tb21 70 = some conRecsOk := rfl
theorem tb21_71 : tb21 71 = some conReady := rfl

-- loop.example/g00678/spec.Order hows []
def lp21_1 : AC := .seq (.seq (.reg [⟨some 20, .mv (.t 6), none⟩,
              ⟨some 21, .bin .leq (.t 20) (.i 6), none⟩,
              ⟨some 22, .mv (.t 21), none⟩,
              ⟨some 23, .mv (.t 5), some (22, true)⟩,
              ⟨some 24, .bin .lss (.t 23) (.i 0), some (22, true)⟩,
              ⟨some 25, .pick (.t 22) (.t 24) (.b false), none⟩])
            (.cond (.t 25)
              (.skip)
              (.exit 2)))
            (.seq (.block 3 (.reg [⟨some 28, .mv (.t 0), none⟩,
                ⟨some 29, .mv (.t 4), none⟩,
                ⟨some 30, .mv (.t 6), none⟩,
                ⟨some 31, .call 71 [(.t 28), (.t 29), (.t 30)], none⟩,
                ⟨some 5, .mv (.t 31), none⟩]))
            (.reg [⟨some 26, .mv (.t 6), none⟩,
              ⟨some 27, .bin .add (.t 26) (.i 1), none⟩,
              ⟨some 6, .mv (.t 27), none⟩]))
def lp21_0 : AC := .seq (.seq (.reg [⟨some 15, .mv (.t 3), none⟩,
        ⟨some 16, .len (.t 15), none⟩,
        ⟨some 17, .mv (.t 0), none⟩,
        ⟨some 18, .len (.t 17), none⟩,
        ⟨some 19, .bin .lss (.t 16) (.t 18), none⟩])
      (.cond (.t 19)
        (.skip)
        (.exit 0)))
      (.block 1 (.seq (.reg [⟨some 5, .mv (.i (-1)), none⟩])
        (.seq (.seq (.reg [⟨some 6, .mv (.i 1), none⟩])
        (.block 2 (.loop lp21_1)))
        (.seq (.reg [⟨some 32, .mv (.t 4), none⟩,
          ⟨some 33, .mv (.t 5), none⟩,
          ⟨some 34, .ia .bool (.t 32) (.t 33), none⟩,
          ⟨none, .st 1 (.t 34) (.b true), none⟩])
        (.reg [⟨some 35, .mv (.t 3), none⟩,
          ⟨some 36, .mv (.t 5), none⟩,
          ⟨some 37, .slit .int [(.t 36)], none⟩,
          ⟨some 38, .app .int (.t 35) (.t 37), none⟩,
          ⟨some 3, .mv (.t 38), none⟩])))))
def af21 : AF := ⟨40, [.t 2],
  .seq (.reg [⟨some 2, .mv (.c (.nil)), none⟩])
  (.seq (.reg [⟨some 7, .slit .int [], none⟩,
    ⟨some 3, .mv (.t 7), none⟩])
  (.seq (.seq (.reg [⟨some 8, .mv (.t 0), none⟩,
    ⟨some 9, .call 70 [(.t 8)], none⟩,
    ⟨some 10, .un .not (.t 9), none⟩])
  (.cond (.t 10)
    (.seq (.reg [⟨some 11, .mv (.t 3), none⟩,
      ⟨some 2, .mv (.t 11), none⟩])
    (.ret))
    (.skip)))
  (.seq (.reg [⟨some 12, .mv (.t 0), none⟩,
    ⟨some 13, .len (.t 12), none⟩,
    ⟨some 14, .mk .bool (zeroK .bool) (.t 13) (.t 13), none⟩,
    ⟨some 4, .mv (.t 14), none⟩])
  (.seq (.block 0 (.loop lp21_0))
  (.seq (.reg [⟨some 39, .mv (.t 3), none⟩,
    ⟨some 2, .mv (.t 39), none⟩])
  (.ret))))))⟩

set_option maxHeartbeats 4000000 in
theorem does21 (as : List AV) (hok : ok 64 as) : Does tb21 af21 conOrder as := by
  cases h : (conOrder).run as with
  | none => exact does_none h
  | some out =>
    have h' := h
    simp only [conOrder] at h'
    split at h'
    · rename_i l
      simp only [ok] at hok
      obtain ⟨⟨hlen, _⟩, _⟩ := hok
      simp only [Option.some.injEq] at h'
      subst h'
      have hmo : (most : Int) = 1099511627776 := rfl
      have hml : (maxLen : Int) = 9223372036854775807 := rfl
      with_reducible refine does_by h fun Q hQ => ?_
      clear h
      dsimp only [af21, conOrder, go_sem, Nat.reduceAdd, Nat.reduceMul, Nat.reduceSub, Nat.reduceBEq, Nat.reduceLeDiff, Nat.reduceEqDiff, ↓dreduceIte, toG, tb21_70, tb21_71, conReady, conRecsOk]
      repeat' first
        | with_reducible refine kon_seq ?_
        | with_reducible refine kon_nil ?_
        | with_reducible refine kon_any ?_ ?_
        | with_reducible exact kon_any_nil
        | with_reducible refine kon_skip ?_
        | with_reducible refine kon_block ?_
        | with_reducible refine kon_ret ?_
        | with_reducible refine kon_exit ?_
        | with_reducible refine kon_past_ret ?_
        | with_reducible refine kon_past_exit ?_
        | with_reducible refine kon_blk_ret ?_
        | with_reducible refine kon_blk_end ?_
        | with_reducible refine kon_blk_exit ?_
        | (with_reducible refine kon_blk_past ?_ ?_
           · decide)
        | with_reducible refine loop_exit ?_
        | with_reducible refine loop_ret ?_
        | with_reducible refine mid_exit ?_
        | with_reducible refine mid_ret ?_
        | ((first | with_reducible refine kon_bin fun R hR => ?_ | with_reducible refine kon_conv fun R hR => ?_)
           dsimp only [go_sem, Nat.reduceAdd, Nat.reduceMul, Nat.reduceSub, Nat.reduceBEq, Nat.reduceLeDiff, Nat.reduceEqDiff, ↓dreduceIte, toG, tb21_70, tb21_71, conReady, conRecsOk]
           try simp (disch := first | omega | (simp only [List.length_set, List.length_append, List.length_cons, List.length_nil, List.length_replicate]; omega)) only [guardP_T, guardP_pos, iteN, rd_set, List.set_set, List.length_set, eta_fact, eta_rumor, eta_doubt, eta_item, eta_rec, eta_due, look, look0, rd_toNat, wrap64, Int.toNat_natCast, Nat.zero_add, List.take_length, List.drop_zero, and_self, setB_len, true_and, and_true, recM_iff, recM_no, take_ge]
           with_reducible refine hR _ ?_
           clear hR R)
        | (with_reducible refine kon_ins fun R hR => ?_
           dsimp only [go_sem, Nat.reduceAdd, Nat.reduceMul, Nat.reduceSub, Nat.reduceBEq, Nat.reduceLeDiff, Nat.reduceEqDiff, ↓dreduceIte, toG, tb21_70, tb21_71, conReady, conRecsOk]
           first
             | with_reducible refine hR _ ?_
             | (simp (disch := first | omega | (simp only [List.length_set, List.length_append, List.length_cons, List.length_nil, List.length_replicate]; omega)) only [guardP_T, guardP_pos, iteN, rd_set, List.set_set, List.length_set, eta_fact, eta_rumor, eta_doubt, eta_item, eta_rec, eta_due, look, look0, rd_toNat, wrap64, Int.toNat_natCast, Nat.zero_add, List.take_length, List.drop_zero, and_self, setB_len, true_and, and_true, recM_iff, recM_no, take_ge]
                try dsimp only [go_sem, Nat.reduceAdd, Nat.reduceMul, Nat.reduceSub, Nat.reduceBEq, Nat.reduceLeDiff, Nat.reduceEqDiff, ↓dreduceIte, toG, tb21_70, tb21_71, conReady, conRecsOk]
                try simp (disch := first | omega | (simp only [List.length_set, List.length_append, List.length_cons, List.length_nil, List.length_replicate]; omega)) only [guardP_T, guardP_pos, iteN, rd_set, List.set_set, List.length_set, eta_fact, eta_rumor, eta_doubt, eta_item, eta_rec, eta_due, look, look0, rd_toNat, wrap64, Int.toNat_natCast, Nat.zero_add, List.take_length, List.drop_zero, and_self, setB_len, true_and, and_true, recM_iff, recM_no, take_ge]
                with_reducible refine hR _ ?_)
           clear hR R)
        | (with_reducible refine kon_g_run ?_ ?_
           · dsimp only [nth] <;> with_reducible rfl)
        | (with_reducible refine kon_g_skip ?_ ?_
           · dsimp only [nth, not_t', not_f'] <;> with_reducible rfl
           dsimp only [go_sem])
        | (with_reducible refine kon_g_undef ?_ ?_
           · dsimp only [nth] <;> with_reducible rfl
           dsimp only [go_sem])
        | (with_reducible refine kon_g fun R hR => ?_
           dsimp only [go_sem, Nat.reduceAdd, Nat.reduceMul, Nat.reduceSub, Nat.reduceBEq, Nat.reduceLeDiff, Nat.reduceEqDiff, ↓dreduceIte, toG, tb21_70, tb21_71, conReady, conRecsOk]
           split <;> (rename_i hb; with_reducible refine hR _ ?_; clear hR R; try simp only [hb]; try simp only [decide_eq_true_eq, decide_eq_false_iff_not, beq_iff_eq, beq_eq_false_iff_ne, bne_iff_ne, bne_eq_false_iff_eq, Bool.not_eq_true, Bool.not_eq_false, Bool.not_eq_eq_eq_not, Bool.not_true, Bool.not_false, ne_eq, Int.not_lt, Int.not_le, eq_self, not_true_eq_false, not_false_eq_true, decide_true, decide_false, Bool.and_eq_true, Bool.or_eq_true, Bool.and_eq_false_iff, Bool.or_eq_false_iff, gt_iff_lt, ge_iff_le, Bool.false_eq_true, Bool.true_eq_false, reduceCtorEq, or_false, false_or, or_true, true_or, false_and, and_false, recM_iff, recM_no, take_ge] at hb; try (exfalso; omega)))
        | (with_reducible refine kon_cond fun R1 R2 h1 h2 => ?_
           dsimp only [go_sem]
           first
             | (with_reducible refine h1 ?_; clear h1 h2 R1 R2)
             | (with_reducible refine h2 ?_; clear h1 h2 R1 R2)
             | ((split <;> rename_i hb <;> first
                 | (with_reducible refine h1 ?_; clear h1 h2 R1 R2; try simp only [hb])
                 | (with_reducible refine h2 ?_; clear h1 h2 R1 R2; try simp only [hb])) <;> (try simp only [decide_eq_true_eq, decide_eq_false_iff_not, beq_iff_eq, beq_eq_false_iff_ne, bne_iff_ne, bne_eq_false_iff_eq, Bool.not_eq_true, Bool.not_eq_false, Bool.not_eq_eq_eq_not, Bool.not_true, Bool.not_false, ne_eq, Int.not_lt, Int.not_le, eq_self, not_true_eq_false, not_false_eq_true, decide_true, decide_false, Bool.and_eq_true, Bool.or_eq_true, Bool.and_eq_false_iff, Bool.or_eq_false_iff, gt_iff_lt, ge_iff_le, Bool.false_eq_true, Bool.true_eq_false, reduceCtorEq, or_false, false_or, or_true, true_or, false_and, and_false, recM_iff, recM_no, take_ge] at hb; try (exfalso; omega))))
        | (with_reducible refine kon_rounds (a := lp21_0) [0, 3, 4] (fun n9 s9 => ∃ (w : List Bool) (o : List Int), ((w.length = l.length) ∧ (o.length ≤ l.length) ∧ (trues w = o.length) ∧ (ordF l (l.length - o.length) w o = ordF l l.length (List.replicate l.length false) []) ∧ (recM l = 1) ∧ (l.length ≤ 400)) ∧ n9 = l.length - o.length ∧ s9.m = [.row 0 .int o, .row 0 .bool w] ∧ s9.t = [.sl .rcd l, nth s9.t 1, nth s9.t 2, .ms 0 0 0 o.length, .ms 1 0 0 l.length, nth s9.t 5, nth s9.t 6, nth s9.t 7, nth s9.t 8, nth s9.t 9, nth s9.t 10, nth s9.t 11, nth s9.t 12, nth s9.t 13, nth s9.t 14, nth s9.t 15, nth s9.t 16, nth s9.t 17, nth s9.t 18, nth s9.t 19, nth s9.t 20, nth s9.t 21, nth s9.t 22, nth s9.t 23, nth s9.t 24, nth s9.t 25, nth s9.t 26, nth s9.t 27, nth s9.t 28, nth s9.t 29, nth s9.t 30, nth s9.t 31, nth s9.t 32, nth s9.t 33, nth s9.t 34, nth s9.t 35, nth s9.t 36, nth s9.t 37, nth s9.t 38, nth s9.t 39]) ?_ ?_
           all_goals first
             | (rintro n9 ⟨t9, m9⟩ ⟨w, o, ⟨hI0, hI1, hI2, hI3, hI4, hI5⟩, rfl, hm9, ht9⟩
                dsimp only at hm9 ht9
                subst hm9
                rw [ht9]
                clear ht9
                dsimp only [lp21_0])
             | (dsimp only [go_sem, Nat.reduceAdd, Nat.reduceMul, Nat.reduceSub, Nat.reduceBEq, Nat.reduceLeDiff, Nat.reduceEqDiff, ↓dreduceIte, toG, tb21_70, tb21_71, conReady, conRecsOk]
                refine ⟨_, _, _, ⟨?_, ?_, ?_, ?_, ?_, ?_⟩, rfl, rfl, rfl⟩))
        | (with_reducible refine loop_again (keep := [0, 3, 4]) ?_
           dsimp only [go_sem, Nat.reduceAdd, Nat.reduceMul, Nat.reduceSub, Nat.reduceBEq, Nat.reduceLeDiff, Nat.reduceEqDiff, ↓dreduceIte, toG, tb21_70, tb21_71, conReady, conRecsOk]
           refine ⟨_, ?_, _, _, ⟨?_, ?_, ?_, ?_, ?_, ?_⟩, rfl, rfl, rfl⟩)
        | (with_reducible refine kon_rounds (a := lp21_1) [0, 3, 4, 5, 6] (fun n9 s9 => ∃ (q x : Int), ((w.length = l.length) ∧ (o.length < l.length) ∧ (trues w = o.length) ∧ (ordF l (l.length - o.length) w o = ordF l l.length (List.replicate l.length false) []) ∧ (recM l = 1) ∧ (l.length ≤ 400) ∧ (0 ≤ pick l w) ∧ (pick l w < l.length) ∧ (rd w (pick l w) = false) ∧ (1 ≤ q) ∧ (q ≤ 7) ∧ (-1 ≤ x) ∧ (x < 0 → pick l w = pickF l w (7 - q).toNat q) ∧ (0 ≤ x → pick l w = x) ∧ (7 ≤ q → pickF l w (7 - q).toNat q = -1)) ∧ n9 = (7 - q).toNat ∧ s9.m = [.row 0 .int o, .row 0 .bool w] ∧ s9.t = [.sl .rcd l, nth s9.t 1, nth s9.t 2, .ms 0 0 0 o.length, .ms 1 0 0 l.length, .int .i64 x, .int .i64 q, nth s9.t 7, nth s9.t 8, nth s9.t 9, nth s9.t 10, nth s9.t 11, nth s9.t 12, nth s9.t 13, nth s9.t 14, nth s9.t 15, nth s9.t 16, nth s9.t 17, nth s9.t 18, nth s9.t 19, nth s9.t 20, nth s9.t 21, nth s9.t 22, nth s9.t 23, nth s9.t 24, nth s9.t 25, nth s9.t 26, nth s9.t 27, nth s9.t 28, nth s9.t 29, nth s9.t 30, nth s9.t 31, nth s9.t 32, nth s9.t 33, nth s9.t 34, nth s9.t 35, nth s9.t 36, nth s9.t 37, nth s9.t 38, nth s9.t 39]) ?_ ?_
           all_goals first
             | (rintro n9 ⟨t9, m9⟩ ⟨q, x, ⟨hI0, hI1, hI2, hI3, hI4, hI5, hI6, hI7, hI8, hI9, hI10, hI11, hI12, hI13, hI14⟩, rfl, hm9, ht9⟩
                dsimp only at hm9 ht9
                subst hm9
                rw [ht9]
                clear ht9
                dsimp only [lp21_1])
             | (dsimp only [go_sem, Nat.reduceAdd, Nat.reduceMul, Nat.reduceSub, Nat.reduceBEq, Nat.reduceLeDiff, Nat.reduceEqDiff, ↓dreduceIte, toG, tb21_70, tb21_71, conReady, conRecsOk]
                refine ⟨_, _, _, ⟨?_, ?_, ?_, ?_, ?_, ?_, ?_, ?_, ?_, ?_, ?_, ?_, ?_, ?_, ?_⟩, rfl, rfl, rfl⟩))
        | (with_reducible refine loop_again (keep := [0, 3, 4, 5, 6]) ?_
           dsimp only [go_sem, Nat.reduceAdd, Nat.reduceMul, Nat.reduceSub, Nat.reduceBEq, Nat.reduceLeDiff, Nat.reduceEqDiff, ↓dreduceIte, toG, tb21_70, tb21_71, conReady, conRecsOk]
           refine ⟨_, ?_, _, _, ⟨?_, ?_, ?_, ?_, ?_, ?_, ?_, ?_, ?_, ?_, ?_, ?_, ?_, ?_, ?_⟩, rfl, rfl, rfl⟩)
      all_goals first
        | (dsimp only [kon]
           with_reducible refine hQ _ _ _ ?_
           dsimp only [kon, endQ, af21, conOrder, go_sem, Nat.reduceAdd, Nat.reduceMul, Nat.reduceSub, Nat.reduceBEq, Nat.reduceLeDiff, Nat.reduceEqDiff, ↓dreduceIte, toG, tb21_70, tb21_71, conReady, conRecsOk]
           try simp (disch := first | omega | (simp only [List.length_set, List.length_append, List.length_cons, List.length_nil, List.length_replicate]; omega)) only [guardP_T, guardP_pos, iteN, rd_set, List.set_set, List.length_set, eta_fact, eta_rumor, eta_doubt, eta_item, eta_rec, eta_due, look, look0, rd_toNat, wrap64, Int.toNat_natCast, Nat.zero_add, List.take_length, List.drop_zero, and_self, setB_len, true_and, and_true]
           try dsimp only [go_sem, Nat.reduceAdd, Nat.reduceMul, Nat.reduceSub, Nat.reduceBEq, Nat.reduceLeDiff, Nat.reduceEqDiff, ↓dreduceIte, toG, tb21_70, tb21_71, conReady, conRecsOk])
        | skip
      all_goals try first
        | omega
        | (simp; done)
        | (simp; omega)
      all_goals first
        | (simp; done)
        | rfl
        | omega
        | exact trues_zero _
        | (simp [trues_zero]; done)
        | assumption
        | (have hg := pick_go (l := l) (w := w) (o := o) hI4 hI5 hI0 hI2 (by omega)
           first
             | exact hg.1
             | exact hg.2.1
             | exact hg.2.2)
        | (intro h
           exact pick_end (by omega))
        | (intro _
           rfl)
        | (rw [ord_none (by assumption)]; done)
        | (rw [← ord_done (by omega) hI4 hI5 hI3]; done)
        | (exact ord_next (by omega) (by omega) hI3)
        | (exact trues_next (by omega) (by omega) (by omega) (by omega) hI8 (by omega))
        | (simp only [List.length_set, List.length_append, List.length_cons, List.length_nil]; omega)
        | (intro h
           have hs := pick_step (l := l) (w := w) (m := q) (by omega)
           have hp := hI12 (by omega)
           first
             | (rw [hp, hs, if_pos h]; done)
             | (rw [hp, hs, if_neg (by omega)]; done))
        | (have hz := ready_bd l w q
           omega)
    · simp at h'

def tb22 : Tab := fun f => match f with
  | 67 => some conRecsOk
  | 72 => some conAnyT
  | 73 => some conDir
  | _ => none

theorem tb22_67 : tb22 67 = some conRecsOk := rfl
theorem tb22_72 : tb22 72 = some conAnyT := rfl
theorem tb22_73 : tb22 73 = some conDir := rfl

-- loop.example/g00678/impl.Order hows [(3, [.any, .any, .still, .any, .any, .any, .any], [([0, 1, 2, 3, 4, 5, 6], [(0, 3), (0, 4), (3, 4)]), ([0, 1, 2, 4, 3, 5, 6], [(0, 4), (0, 3), (4, 3)]), ([1, 2, 4, 0, 3, 5, 6], [(4, 0), (4, 3), (0, 3)]), ([1, 2, 3, 0, 4, 5, 6], [(3, 0), (3, 4), (0, 4)]), ([1, 2, 3, 4, 0, 5, 6], [(3, 4), (3, 0), (4, 0)]), ([1, 2, 4, 3, 0, 5, 6], [(4, 3), (4, 0), (3, 0)])])]
def an22_0 : AC := .any [[⟨some 12, .slit .int [], none⟩,
      ⟨some 13, .mv (.t 0), none⟩,
      ⟨some 14, .len0 (.t 13), none⟩,
      ⟨some 15, .mk .bool (zeroK .bool) (.t 14) (.t 14), none⟩,
      ⟨some 4, .box (.c (.nil)), none⟩,
      ⟨some 3, .mv (.t 12), none⟩,
      ⟨none, .st 1 (.t 4) (.t 15), none⟩],
    [⟨some 12, .slit .int [], none⟩,
      ⟨some 13, .mv (.t 0), none⟩,
      ⟨some 14, .len0 (.t 13), none⟩,
      ⟨some 4, .box (.c (.nil)), none⟩,
      ⟨some 15, .mk .bool (zeroK .bool) (.t 14) (.t 14), none⟩,
      ⟨some 3, .mv (.t 12), none⟩,
      ⟨none, .st 1 (.t 4) (.t 15), none⟩],
    [⟨some 13, .mv (.t 0), none⟩,
      ⟨some 14, .len0 (.t 13), none⟩,
      ⟨some 4, .box (.c (.nil)), none⟩,
      ⟨some 12, .slit .int [], none⟩,
      ⟨some 15, .mk .bool (zeroK .bool) (.t 14) (.t 14), none⟩,
      ⟨some 3, .mv (.t 12), none⟩,
      ⟨none, .st 1 (.t 4) (.t 15), none⟩],
    [⟨some 13, .mv (.t 0), none⟩,
      ⟨some 14, .len0 (.t 13), none⟩,
      ⟨some 15, .mk .bool (zeroK .bool) (.t 14) (.t 14), none⟩,
      ⟨some 12, .slit .int [], none⟩,
      ⟨some 4, .box (.c (.nil)), none⟩,
      ⟨some 3, .mv (.t 12), none⟩,
      ⟨none, .st 1 (.t 4) (.t 15), none⟩],
    [⟨some 13, .mv (.t 0), none⟩,
      ⟨some 14, .len0 (.t 13), none⟩,
      ⟨some 15, .mk .bool (zeroK .bool) (.t 14) (.t 14), none⟩,
      ⟨some 4, .box (.c (.nil)), none⟩,
      ⟨some 12, .slit .int [], none⟩,
      ⟨some 3, .mv (.t 12), none⟩,
      ⟨none, .st 1 (.t 4) (.t 15), none⟩],
    [⟨some 13, .mv (.t 0), none⟩,
      ⟨some 14, .len0 (.t 13), none⟩,
      ⟨some 4, .box (.c (.nil)), none⟩,
      ⟨some 15, .mk .bool (zeroK .bool) (.t 14) (.t 14), none⟩,
      ⟨some 12, .slit .int [], none⟩,
      ⟨some 3, .mv (.t 12), none⟩,
      ⟨none, .st 1 (.t 4) (.t 15), none⟩]]
def lp22_2 : AC := .seq (.reg [⟨some 28, .bin .lss (.t 27) (.t 26), none⟩])
                  (.seq (.cond (.t 28)
                    (.skip)
                    (.exit 4))
                  (.seq (.block 5 (.seq (.reg [⟨some 29, .mv (.t 27), none⟩,
                      ⟨some 30, .ia .rcd (.t 25) (.t 27), none⟩,
                      ⟨some 31, .ld true 6 (.t 30), none⟩,
                      ⟨some 8, .box (.c (.agg [.int .i64 0, .int .i64 0, .int .i64 0, .int .i64 0, .int .i64 0, .int .i64 0])), none⟩,
                      ⟨some 7, .mv (.t 29), none⟩,
                      ⟨none, .st 6 (.t 8) (.t 31), none⟩])
                    (.seq (.reg [⟨some 32, .fa 1 (.t 8), none⟩,
                      ⟨some 33, .ld false 1 (.t 32), none⟩,
                      ⟨some 34, .mv (.t 5), none⟩,
                      ⟨some 35, .bin .eql (.t 33) (.t 34), none⟩,
                      ⟨some 36, .mv (.t 35), none⟩,
                      ⟨some 37, .ld false 1 (.t 4), some (36, true)⟩,
                      ⟨some 38, .mv (.t 7), some (36, true)⟩,
                      ⟨some 39, .ia .bool (.t 37) (.t 38), some (36, true)⟩,
                      ⟨some 40, .ld false 1 (.t 39), some (36, true)⟩,
                      ⟨some 41, .un .not (.t 40), some (36, true)⟩,
                      ⟨some 42, .pick (.t 36) (.t 41) (.b false), none⟩])
                    (.cond (.t 42)
                      (.seq (.reg [⟨some 43, .mv (.t 7), none⟩,
                        ⟨some 6, .mv (.t 43), none⟩])
                      (.exit 4))
                      (.skip)))))
                  (.reg [⟨some 44, .bin .add (.t 27) (.i 1), none⟩,
                    ⟨some 27, .mv (.t 44), none⟩])))
def lp22_1 : AC := .seq (.seq (.reg [⟨some 21, .mv (.t 5), none⟩,
              ⟨some 22, .bin .leq (.t 21) (.i 6), none⟩])
            (.cond (.t 22)
              (.skip)
              (.exit 2)))
            (.seq (.block 3 (.seq (.reg [⟨some 6, .mv (.i (-1)), none⟩])
              (.seq (.seq (.reg [⟨some 25, .mv (.t 0), none⟩,
                ⟨some 26, .len (.t 25), none⟩,
                ⟨some 27, .mv (.i 0), none⟩])
              (.block 4 (.loop lp22_2)))
              (.seq (.reg [⟨some 45, .mv (.t 6), none⟩,
                ⟨some 46, .bin .geq (.t 45) (.i 0), none⟩,
                ⟨some 47, .mv (.t 46), none⟩,
                ⟨some 48, .mv (.t 0), some (47, true)⟩,
                ⟨some 49, .mv (.t 6), some (47, true)⟩,
                ⟨some 50, .call 73 [(.t 48), (.t 49)], some (47, true)⟩,
                ⟨some 51, .mf 74 [(.t 4)], some (47, true)⟩,
                ⟨some 52, .call 72 [(.t 50), (.t 51)], some (47, true)⟩,
                ⟨some 53, .un .not (.t 52), some (47, true)⟩,
                ⟨some 54, .pick (.t 47) (.t 53) (.b false), none⟩])
              (.cond (.t 54)
                (.seq (.reg [⟨some 55, .ld false 1 (.t 4), none⟩,
                  ⟨some 56, .mv (.t 6), none⟩,
                  ⟨some 57, .ia .bool (.t 55) (.t 56), none⟩,
                  ⟨none, .st 1 (.t 57) (.b true), none⟩])
                (.seq (.reg [⟨some 58, .mv (.t 3), none⟩,
                  ⟨some 59, .mv (.t 6), none⟩,
                  ⟨some 60, .slit .int [(.t 59)], none⟩,
                  ⟨some 61, .app .int (.t 58) (.t 60), none⟩,
                  ⟨some 3, .mv (.t 61), none⟩])
                (.exit 2)))
                (.skip))))))
            (.reg [⟨some 23, .mv (.t 5), none⟩,
              ⟨some 24, .bin .add (.t 23) (.i 1), none⟩,
              ⟨some 5, .mv (.t 24), none⟩]))
def lp22_0 : AC := .seq (.seq (.reg [⟨some 16, .mv (.t 3), none⟩,
        ⟨some 17, .len (.t 16), none⟩,
        ⟨some 18, .mv (.t 0), none⟩,
        ⟨some 19, .len (.t 18), none⟩,
        ⟨some 20, .bin .lss (.t 17) (.t 19), none⟩])
      (.cond (.t 20)
        (.skip)
        (.exit 0)))
      (.block 1 (.seq (.reg [⟨some 5, .mv (.i 1), none⟩])
        (.block 2 (.loop lp22_1))))
def af22 : AF := ⟨63, [.t 2],
  .seq (.reg [⟨some 2, .mv (.c (.nil)), none⟩])
  (.seq (.seq (.reg [⟨some 9, .mv (.t 0), none⟩,
    ⟨some 10, .call 67 [(.t 9)], none⟩,
    ⟨some 11, .un .not (.t 10), none⟩])
  (.cond (.t 11)
    (.seq (.reg [⟨some 2, .mv (.c (.nil)), none⟩])
    (.ret))
    (.skip)))
  (.seq (an22_0)
  (.seq (.block 0 (.loop lp22_0))
  (.seq (.reg [⟨some 62, .mv (.t 3), none⟩,
    ⟨some 2, .mv (.t 62), none⟩])
  (.ret)))))⟩

set_option maxRecDepth 100000 in
set_option maxHeartbeats 4000000 in
theorem does22 (as : List AV) (hok : ok 64 as) : Does tb22 af22 conOrder as := by
  cases h : (conOrder).run as with
  | none => exact does_none h
  | some out =>
    have h' := h
    simp only [conOrder] at h'
    split at h'
    · rename_i l
      simp only [ok] at hok
      obtain ⟨⟨hlen, _⟩, _⟩ := hok
      simp only [Option.some.injEq] at h'
      subst h'
      have hmo : (most : Int) = 1099511627776 := rfl
      have hml : (maxLen : Int) = 9223372036854775807 := rfl
      with_reducible refine does_by h fun Q hQ => ?_
      clear h
      dsimp only [af22, conOrder, go_sem, Nat.reduceAdd, Nat.reduceMul, Nat.reduceSub, Nat.reduceBEq, Nat.reduceLeDiff, Nat.reduceEqDiff, ↓dreduceIte, toG, tb22_67, tb22_72, tb22_73, conAnyT, conDir, conRecsOk]
      repeat' first
        | (with_reducible refine kon_mid (a := an22_0) [0, 3, 4] (fun s9 => ((True)) ∧ s9.m = [.row 0 .int [], .cells [.ms 2 0 0 l.length], .row 0 .bool (List.replicate l.length false)] ∧ s9.t = [.sl .rcd l, nth s9.t 1, nth s9.t 2, .ms 0 0 0 0, .ptr 1 0, nth s9.t 5, nth s9.t 6, nth s9.t 7, nth s9.t 8, nth s9.t 9, nth s9.t 10, nth s9.t 11, nth s9.t 12, nth s9.t 13, nth s9.t 14, nth s9.t 15, nth s9.t 16, nth s9.t 17, nth s9.t 18, nth s9.t 19, nth s9.t 20, nth s9.t 21, nth s9.t 22, nth s9.t 23, nth s9.t 24, nth s9.t 25, nth s9.t 26, nth s9.t 27, nth s9.t 28, nth s9.t 29, nth s9.t 30, nth s9.t 31, nth s9.t 32, nth s9.t 33, nth s9.t 34, nth s9.t 35, nth s9.t 36, nth s9.t 37, nth s9.t 38, nth s9.t 39, nth s9.t 40, nth s9.t 41, nth s9.t 42, nth s9.t 43, nth s9.t 44, nth s9.t 45, nth s9.t 46, nth s9.t 47, nth s9.t 48, nth s9.t 49, nth s9.t 50, nth s9.t 51, nth s9.t 52, nth s9.t 53, nth s9.t 54, nth s9.t 55, nth s9.t 56, nth s9.t 57, nth s9.t 58, nth s9.t 59, nth s9.t 60, nth s9.t 61, nth s9.t 62]) ?_ ?_
           all_goals first
             | (rintro ⟨t9, m9⟩ ⟨hM0, hm9, ht9⟩
                dsimp only at hm9 ht9
                subst hm9
                rw [ht9]
                clear ht9)
             | dsimp only [an22_0])
        | (with_reducible refine mid_on (keep := [0, 3, 4]) ?_
           dsimp only [go_sem, Nat.reduceAdd, Nat.reduceMul, Nat.reduceSub, Nat.reduceBEq, Nat.reduceLeDiff, Nat.reduceEqDiff, ↓dreduceIte, toG, tb22_67, tb22_72, tb22_73, conAnyT, conDir, conRecsOk]
           refine ⟨?_, rfl, rfl⟩)
        | with_reducible refine kon_seq ?_
        | with_reducible refine kon_nil ?_
        | with_reducible refine kon_any ?_ ?_
        | with_reducible exact kon_any_nil
        | with_reducible refine kon_skip ?_
        | with_reducible refine kon_block ?_
        | with_reducible refine kon_ret ?_
        | with_reducible refine kon_exit ?_
        | with_reducible refine kon_past_ret ?_
        | with_reducible refine kon_past_exit ?_
        | with_reducible refine kon_blk_ret ?_
        | with_reducible refine kon_blk_end ?_
        | with_reducible refine kon_blk_exit ?_
        | (with_reducible refine kon_blk_past ?_ ?_
           · decide)
        | with_reducible refine loop_exit ?_
        | with_reducible refine loop_ret ?_
        | with_reducible refine mid_exit ?_
        | with_reducible refine mid_ret ?_
        | ((first | with_reducible refine kon_bin fun R hR => ?_ | with_reducible refine kon_conv fun R hR => ?_)
           dsimp only [go_sem, Nat.reduceAdd, Nat.reduceMul, Nat.reduceSub, Nat.reduceBEq, Nat.reduceLeDiff, Nat.reduceEqDiff, ↓dreduceIte, toG, tb22_67, tb22_72, tb22_73, conAnyT, conDir, conRecsOk]
           try simp (disch := first | omega | (simp only [List.length_set, List.length_append, List.length_cons, List.length_nil, List.length_replicate]; omega)) only [guardP_T, guardP_pos, iteN, rd_set, List.set_set, List.length_set, eta_fact, eta_rumor, eta_doubt, eta_item, eta_rec, eta_due, look, look0, rd_toNat, wrap64, Int.toNat_natCast, Nat.zero_add, List.take_length, List.drop_zero, and_self, setB_len, true_and, and_true, recM_iff, recM_no, dirs_any, take_ge]
           with_reducible refine hR _ ?_
           clear hR R)
        | (with_reducible refine kon_ins fun R hR => ?_
           dsimp only [go_sem, Nat.reduceAdd, Nat.reduceMul, Nat.reduceSub, Nat.reduceBEq, Nat.reduceLeDiff, Nat.reduceEqDiff, ↓dreduceIte, toG, tb22_67, tb22_72, tb22_73, conAnyT, conDir, conRecsOk]
           first
             | with_reducible refine hR _ ?_
             | (simp (disch := first | omega | (simp only [List.length_set, List.length_append, List.length_cons, List.length_nil, List.length_replicate]; omega)) only [guardP_T, guardP_pos, iteN, rd_set, List.set_set, List.length_set, eta_fact, eta_rumor, eta_doubt, eta_item, eta_rec, eta_due, look, look0, rd_toNat, wrap64, Int.toNat_natCast, Nat.zero_add, List.take_length, List.drop_zero, and_self, setB_len, true_and, and_true, recM_iff, recM_no, dirs_any, take_ge]
                try dsimp only [go_sem, Nat.reduceAdd, Nat.reduceMul, Nat.reduceSub, Nat.reduceBEq, Nat.reduceLeDiff, Nat.reduceEqDiff, ↓dreduceIte, toG, tb22_67, tb22_72, tb22_73, conAnyT, conDir, conRecsOk]
                try simp (disch := first | omega | (simp only [List.length_set, List.length_append, List.length_cons, List.length_nil, List.length_replicate]; omega)) only [guardP_T, guardP_pos, iteN, rd_set, List.set_set, List.length_set, eta_fact, eta_rumor, eta_doubt, eta_item, eta_rec, eta_due, look, look0, rd_toNat, wrap64, Int.toNat_natCast, Nat.zero_add, List.take_length, List.drop_zero, and_self, setB_len, true_and, and_true, recM_iff, recM_no, dirs_any, take_ge]
                with_reducible refine hR _ ?_)
           clear hR R)
        | (with_reducible refine kon_g_run ?_ ?_
           · dsimp only [nth] <;> with_reducible rfl)
        | (with_reducible refine kon_g_skip ?_ ?_
           · dsimp only [nth, not_t', not_f'] <;> with_reducible rfl
           dsimp only [go_sem])
        | (with_reducible refine kon_g_undef ?_ ?_
           · dsimp only [nth] <;> with_reducible rfl
           dsimp only [go_sem])
        | (with_reducible refine kon_g fun R hR => ?_
           dsimp only [go_sem, Nat.reduceAdd, Nat.reduceMul, Nat.reduceSub, Nat.reduceBEq, Nat.reduceLeDiff, Nat.reduceEqDiff, ↓dreduceIte, toG, tb22_67, tb22_72, tb22_73, conAnyT, conDir, conRecsOk]
           split <;> (rename_i hb; with_reducible refine hR _ ?_; clear hR R; try simp only [hb]; try simp only [decide_eq_true_eq, decide_eq_false_iff_not, beq_iff_eq, beq_eq_false_iff_ne, bne_iff_ne, bne_eq_false_iff_eq, Bool.not_eq_true, Bool.not_eq_false, Bool.not_eq_eq_eq_not, Bool.not_true, Bool.not_false, ne_eq, Int.not_lt, Int.not_le, eq_self, not_true_eq_false, not_false_eq_true, decide_true, decide_false, Bool.and_eq_true, Bool.or_eq_true, Bool.and_eq_false_iff, Bool.or_eq_false_iff, gt_iff_lt, ge_iff_le, Bool.false_eq_true, Bool.true_eq_false, reduceCtorEq, or_false, false_or, or_true, true_or, false_and, and_false, recM_iff, recM_no, dirs_any, take_ge] at hb; try (exfalso; omega)))
        | (with_reducible refine kon_cond fun R1 R2 h1 h2 => ?_
           dsimp only [go_sem]
           first
             | (with_reducible refine h1 ?_; clear h1 h2 R1 R2)
             | (with_reducible refine h2 ?_; clear h1 h2 R1 R2)
             | ((split <;> rename_i hb <;> first
                 | (with_reducible refine h1 ?_; clear h1 h2 R1 R2; try simp only [hb])
                 | (with_reducible refine h2 ?_; clear h1 h2 R1 R2; try simp only [hb])) <;> (try simp only [decide_eq_true_eq, decide_eq_false_iff_not, beq_iff_eq, beq_eq_false_iff_ne, bne_iff_ne, bne_eq_false_iff_eq, Bool.not_eq_true, Bool.not_eq_false, Bool.not_eq_eq_eq_not, Bool.not_true, Bool.not_false, ne_eq, Int.not_lt, Int.not_le, eq_self, not_true_eq_false, not_false_eq_true, decide_true, decide_false, Bool.and_eq_true, Bool.or_eq_true, Bool.and_eq_false_iff, Bool.or_eq_false_iff, gt_iff_lt, ge_iff_le, Bool.false_eq_true, Bool.true_eq_false, reduceCtorEq, or_false, false_or, or_true, true_or, false_and, and_false, recM_iff, recM_no, dirs_any, take_ge] at hb; try (exfalso; omega))))
        | (with_reducible refine kon_rounds (a := lp22_0) [0, 3, 4] (fun n9 s9 => ∃ (w : List Bool) (o : List Int), ((w.length = l.length) ∧ (o.length ≤ l.length) ∧ (trues w = o.length) ∧ (ordF l (l.length - o.length) w o = ordF l l.length (List.replicate l.length false) []) ∧ (recM l = 1) ∧ (l.length ≤ 400)) ∧ n9 = l.length - o.length ∧ s9.m = [.row 0 .int o, .cells [.ms 2 0 0 l.length], .row 0 .bool w] ∧ s9.t = [.sl .rcd l, nth s9.t 1, nth s9.t 2, .ms 0 0 0 o.length, .ptr 1 0, nth s9.t 5, nth s9.t 6, nth s9.t 7, nth s9.t 8, nth s9.t 9, nth s9.t 10, nth s9.t 11, nth s9.t 12, nth s9.t 13, nth s9.t 14, nth s9.t 15, nth s9.t 16, nth s9.t 17, nth s9.t 18, nth s9.t 19, nth s9.t 20, nth s9.t 21, nth s9.t 22, nth s9.t 23, nth s9.t 24, nth s9.t 25, nth s9.t 26, nth s9.t 27, nth s9.t 28, nth s9.t 29, nth s9.t 30, nth s9.t 31, nth s9.t 32, nth s9.t 33, nth s9.t 34, nth s9.t 35, nth s9.t 36, nth s9.t 37, nth s9.t 38, nth s9.t 39, nth s9.t 40, nth s9.t 41, nth s9.t 42, nth s9.t 43, nth s9.t 44, nth s9.t 45, nth s9.t 46, nth s9.t 47, nth s9.t 48, nth s9.t 49, nth s9.t 50, nth s9.t 51, nth s9.t 52, nth s9.t 53, nth s9.t 54, nth s9.t 55, nth s9.t 56, nth s9.t 57, nth s9.t 58, nth s9.t 59, nth s9.t 60, nth s9.t 61, nth s9.t 62]) ?_ ?_
           all_goals first
             | (rintro n9 ⟨t9, m9⟩ ⟨w, o, ⟨hI0, hI1, hI2, hI3, hI4, hI5⟩, rfl, hm9, ht9⟩
                dsimp only at hm9 ht9
                subst hm9
                rw [ht9]
                clear ht9
                dsimp only [lp22_0])
             | (dsimp only [go_sem, Nat.reduceAdd, Nat.reduceMul, Nat.reduceSub, Nat.reduceBEq, Nat.reduceLeDiff, Nat.reduceEqDiff, ↓dreduceIte, toG, tb22_67, tb22_72, tb22_73, conAnyT, conDir, conRecsOk]
                refine ⟨_, _, _, ⟨?_, ?_, ?_, ?_, ?_, ?_⟩, rfl, rfl, rfl⟩))
        | (with_reducible refine loop_again (keep := [0, 3, 4]) ?_
           dsimp only [go_sem, Nat.reduceAdd, Nat.reduceMul, Nat.reduceSub, Nat.reduceBEq, Nat.reduceLeDiff, Nat.reduceEqDiff, ↓dreduceIte, toG, tb22_67, tb22_72, tb22_73, conAnyT, conDir, conRecsOk]
           refine ⟨_, ?_, _, _, ⟨?_, ?_, ?_, ?_, ?_, ?_⟩, rfl, rfl, rfl⟩)
        | (with_reducible refine kon_rounds (a := lp22_1) [0, 3, 4, 5] (fun n9 s9 => ∃ (q : Int), ((w.length = l.length) ∧ (o.length < l.length) ∧ (trues w = o.length) ∧ (ordF l (l.length - o.length) w o = ordF l l.length (List.replicate l.length false) []) ∧ (recM l = 1) ∧ (l.length ≤ 400) ∧ (0 ≤ pick l w) ∧ (pick l w < l.length) ∧ (rd w (pick l w) = false) ∧ (1 ≤ q) ∧ (q ≤ 7) ∧ (pick l w = pickF l w (7 - q).toNat q) ∧ (7 ≤ q → pickF l w (7 - q).toNat q = -1)) ∧ n9 = (7 - q).toNat ∧ s9.m = [.row 0 .int o, .cells [.ms 2 0 0 l.length], .row 0 .bool w] ∧ s9.t = [.sl .rcd l, nth s9.t 1, nth s9.t 2, .ms 0 0 0 o.length, .ptr 1 0, .int .i64 q, nth s9.t 6, nth s9.t 7, nth s9.t 8, nth s9.t 9, nth s9.t 10, nth s9.t 11, nth s9.t 12, nth s9.t 13, nth s9.t 14, nth s9.t 15, nth s9.t 16, nth s9.t 17, nth s9.t 18, nth s9.t 19, nth s9.t 20, nth s9.t 21, nth s9.t 22, nth s9.t 23, nth s9.t 24, nth s9.t 25, nth s9.t 26, nth s9.t 27, nth s9.t 28, nth s9.t 29, nth s9.t 30, nth s9.t 31, nth s9.t 32, nth s9.t 33, nth s9.t 34, nth s9.t 35, nth s9.t 36, nth s9.t 37, nth s9.t 38, nth s9.t 39, nth s9.t 40, nth s9.t 41, nth s9.t 42, nth s9.t 43, nth s9.t 44, nth s9.t 45, nth s9.t 46, nth s9.t 47, nth s9.t 48, nth s9.t 49, nth s9.t 50, nth s9.t 51, nth s9.t 52, nth s9.t 53, nth s9.t 54, nth s9.t 55, nth s9.t 56, nth s9.t 57, nth s9.t 58, nth s9.t 59, nth s9.t 60, nth s9.t 61, nth s9.t 62]) ?_ ?_
           all_goals first
             | (rintro n9 ⟨t9, m9⟩ ⟨q, ⟨hI0, hI1, hI2, hI3, hI4, hI5, hI6, hI7, hI8, hI9, hI10, hI11, hI12⟩, rfl, hm9, ht9⟩
                dsimp only at hm9 ht9
                subst hm9
                rw [ht9]
                clear ht9
                dsimp only [lp22_1])
             | (dsimp only [go_sem, Nat.reduceAdd, Nat.reduceMul, Nat.reduceSub, Nat.reduceBEq, Nat.reduceLeDiff, Nat.reduceEqDiff, ↓dreduceIte, toG, tb22_67, tb22_72, tb22_73, conAnyT, conDir, conRecsOk]
                refine ⟨_, _, ⟨?_, ?_, ?_, ?_, ?_, ?_, ?_, ?_, ?_, ?_, ?_, ?_, ?_⟩, rfl, rfl, rfl⟩))
        | (with_reducible refine loop_again (keep := [0, 3, 4, 5]) ?_
           dsimp only [go_sem, Nat.reduceAdd, Nat.reduceMul, Nat.reduceSub, Nat.reduceBEq, Nat.reduceLeDiff, Nat.reduceEqDiff, ↓dreduceIte, toG, tb22_67, tb22_72, tb22_73, conAnyT, conDir, conRecsOk]
           refine ⟨_, ?_, _, ⟨?_, ?_, ?_, ?_, ?_, ?_, ?_, ?_, ?_, ?_, ?_, ?_, ?_⟩, rfl, rfl, rfl⟩)
        | (with_reducible refine kon_rounds (a := lp22_2) [0, 3, 4, 5, 6, 25, 26, 27] (fun n9 s9 => ∃ (i : Int), ((w.length = l.length) ∧ (o.length < l.length) ∧ (trues w = o.length) ∧ (ordF l (l.length - o.length) w o = ordF l l.length (List.replicate l.length false) []) ∧ (recM l = 1) ∧ (l.length ≤ 400) ∧ (0 ≤ pick l w) ∧ (pick l w < l.length) ∧ (rd w (pick l w) = false) ∧ (1 ≤ q) ∧ (q ≤ 7) ∧ (pick l w = pickF l w (7 - q).toNat q) ∧ (7 ≤ q → pickF l w (7 - q).toNat q = -1) ∧ (0 ≤ i) ∧ (i ≤ l.length) ∧ (firstU l w q = fU l w q (l.length - i).toNat i) ∧ (i < l.length → inN (dirB l i) w.length = 1) ∧ ((dirB l i).length ≤ 2) ∧ (q ≤ 6)) ∧ n9 = (l.length - i).toNat ∧ s9.m = [.row 0 .int o, .cells [.ms 2 0 0 l.length], .row 0 .bool w] ∧ s9.t = [.sl .rcd l, nth s9.t 1, nth s9.t 2, .ms 0 0 0 o.length, .ptr 1 0, .int .i64 q, .int .i64 (-1), nth s9.t 7, nth s9.t 8, nth s9.t 9, nth s9.t 10, nth s9.t 11, nth s9.t 12, nth s9.t 13, nth s9.t 14, nth s9.t 15, nth s9.t 16, nth s9.t 17, nth s9.t 18, nth s9.t 19, nth s9.t 20, nth s9.t 21, nth s9.t 22, nth s9.t 23, nth s9.t 24, .sl .rcd l, .int .i64 l.length, .int .i64 i, nth s9.t 28, nth s9.t 29, nth s9.t 30, nth s9.t 31, nth s9.t 32, nth s9.t 33, nth s9.t 34, nth s9.t 35, nth s9.t 36, nth s9.t 37, nth s9.t 38, nth s9.t 39, nth s9.t 40, nth s9.t 41, nth s9.t 42, nth s9.t 43, nth s9.t 44, nth s9.t 45, nth s9.t 46, nth s9.t 47, nth s9.t 48, nth s9.t 49, nth s9.t 50, nth s9.t 51, nth s9.t 52, nth s9.t 53, nth s9.t 54, nth s9.t 55, nth s9.t 56, nth s9.t 57, nth s9.t 58, nth s9.t 59, nth s9.t 60, nth s9.t 61, nth s9.t 62]) ?_ ?_
           all_goals first
             | (rintro n9 ⟨t9, m9⟩ ⟨i, ⟨hI0, hI1, hI2, hI3, hI4, hI5, hI6, hI7, hI8, hI9, hI10, hI11, hI12, hI13, hI14, hI15, hI16, hI17, hI18⟩, rfl, hm9, ht9⟩
                dsimp only at hm9 ht9
                subst hm9
                rw [ht9]
                clear ht9
                dsimp only [lp22_2])
             | (dsimp only [go_sem, Nat.reduceAdd, Nat.reduceMul, Nat.reduceSub, Nat.reduceBEq, Nat.reduceLeDiff, Nat.reduceEqDiff, ↓dreduceIte, toG, tb22_67, tb22_72, tb22_73, conAnyT, conDir, conRecsOk]
                refine ⟨_, _, ⟨?_, ?_, ?_, ?_, ?_, ?_, ?_, ?_, ?_, ?_, ?_, ?_, ?_, ?_, ?_, ?_, ?_, ?_, ?_⟩, rfl, rfl, rfl⟩))
        | (with_reducible refine loop_again (keep := [0, 3, 4, 5, 6, 25, 26, 27]) ?_
           dsimp only [go_sem, Nat.reduceAdd, Nat.reduceMul, Nat.reduceSub, Nat.reduceBEq, Nat.reduceLeDiff, Nat.reduceEqDiff, ↓dreduceIte, toG, tb22_67, tb22_72, tb22_73, conAnyT, conDir, conRecsOk]
           refine ⟨_, ?_, _, ⟨?_, ?_, ?_, ?_, ?_, ?_, ?_, ?_, ?_, ?_, ?_, ?_, ?_, ?_, ?_, ?_, ?_, ?_, ?_⟩, rfl, rfl, rfl⟩)
      all_goals first
        | (dsimp only [kon]
           with_reducible refine hQ _ _ _ ?_
           dsimp only [kon, endQ, af22, conOrder, go_sem, Nat.reduceAdd, Nat.reduceMul, Nat.reduceSub, Nat.reduceBEq, Nat.reduceLeDiff, Nat.reduceEqDiff, ↓dreduceIte, toG, tb22_67, tb22_72, tb22_73, conAnyT, conDir, conRecsOk]
           try simp (disch := first | omega | (simp only [List.length_set, List.length_append, List.length_cons, List.length_nil, List.length_replicate]; omega)) only [guardP_T, guardP_pos, iteN, rd_set, List.set_set, List.length_set, eta_fact, eta_rumor, eta_doubt, eta_item, eta_rec, eta_due, look, look0, rd_toNat, wrap64, Int.toNat_natCast, Nat.zero_add, List.take_length, List.drop_zero, and_self, setB_len, true_and, and_true]
           try dsimp only [go_sem, Nat.reduceAdd, Nat.reduceMul, Nat.reduceSub, Nat.reduceBEq, Nat.reduceLeDiff, Nat.reduceEqDiff, ↓dreduceIte, toG, tb22_67, tb22_72, tb22_73, conAnyT, conDir, conRecsOk])
        | skip
      all_goals try first
        | omega
        | (simp; done)
        | (simp; omega)
      all_goals first
        | (simp; done)
        | rfl
        | omega
        | exact trues_zero _
        | (simp [trues_zero]; done)
        | assumption
        | (have hg := pick_go (l := l) (w := w) (o := o) hI4 hI5 hI0 hI2 (by omega)
           first
             | exact hg.1
             | exact hg.2.1
             | exact hg.2.2)
        | (intro h
           exact pick_end (by omega))
        | (intro _
           rfl)
        | (rw [ord_none (by assumption)]; done)
        | (rw [← ord_done (by omega) hI4 hI5 hI3]; done)
        | (exact ord_next (by omega) (by omega) hI3)
        | (exact trues_next (by omega) (by omega) (by omega) (by omega) hI8 (by omega))
        | (simp only [List.length_set, List.length_append, List.length_cons, List.length_nil]; omega)
        | exact trues_next (pick_found hI15 (by assumption) hI18 hI13 (by assumption) (by assumption) hb hI11) hI6 hI7 hI0 hI8 hI2
        | exact ord_next (pick_found hI15 (by assumption) hI18 hI13 (by assumption) (by assumption) hb hI11) hI1 hI3
        | exact pick_wait hI15 (by assumption) hI18 hI13 (by assumption) (by assumption) hb hI11
        | exact pick_none hI15 (by assumption) hI18 hI11
        | exact dirB_length l _
        | exact fun h => inN_dir (by omega) h (by omega)
        | (rw [hI15, fU_step (by omega), if_neg (fun h => by simp_all)]; done)
        | (intro h
           exact pick_end (by omega))
    · simp at h'

end Go.Proofs.Ytnghlmogcbmlfaa
