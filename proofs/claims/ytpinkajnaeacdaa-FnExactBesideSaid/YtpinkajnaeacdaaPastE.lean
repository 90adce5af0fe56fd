/- Who is ahead of whom. -/
import Derived.Test.YtpinkajnaeacdaaPastD
namespace Go.Proofs.Ytpinkajnaeacdaa
set_option linter.unusedVariables false
set_option linter.unusedSimpArgs false
set_option linter.unnecessarySimpa false

theorem pastS_length {l : List Rec} {i : Int} (h0 : 0 ≤ i) (h1 : i < l.length) : (pastS l i).length = l.length := (pastS_reach l i h0 h1).1

theorem pasts_rd {l : List Rec} {i : Int} (h0 : 0 ≤ i) (h1 : i < l.length) : rd (rowsB l l.length) i = pastS l i := past_same l i h0 h1

def aheadB (l : List Rec) (i j : Int) : Bool := recsOk l && (isPl l i && (isPl l j && rd (pastS l j) i))
def besideB (l : List Rec) (i j : Int) : Bool := recsOk l && (isPl l i && (isPl l j && ((i != j) && (!rd (pastS l j) i && !rd (pastS l i) j))))

def idx : List Bool → Int → List Int
  | [], _ => []
  | b :: r, n => (if b = true then [n] else []) ++ idx r (n + 1)

def pastL (l : List Rec) (i : Int) : List Int := if recsOk l = true ∧ isPl l i = true then idx (pastS l i) 0 else []

theorem idx_length (l : List Bool) (n : Int) : (idx l n).length ≤ l.length := by
  induction l generalizing n with
  | nil => simp [idx]
  | cons b r ih =>
    have := ih (n + 1)
    simp only [idx, List.length_append, List.length_cons]
    split <;> simp <;> omega

theorem pastL_length (l : List Rec) (i : Int) : (pastL l i).length ≤ 400 := by
  unfold pastL
  split
  · rename_i h
    have h1 := idx_length (pastS l i) 0
    rw [recsOk_iff, isPl_iff] at h
    rw [pastS_length h.2.1 (by omega)] at h1
    omega
  · simp

theorem idx_yes {l : List Bool} {k : Int} (h0 : 0 ≤ k) (h1 : k < l.length) (h : rd l k = true) : idx (l.drop k.toNat) k = k :: idx (l.drop (k + 1).toNat) (k + 1) := by
  rw [drop_rd h0 h1, idx, h, if_pos rfl]
  rfl

theorem idx_no {l : List Bool} {k : Int} (h0 : 0 ≤ k) (h1 : k < l.length) (h : rd l k = false) : idx (l.drop k.toNat) k = idx (l.drop (k + 1).toNat) (k + 1) := by
  rw [drop_rd h0 h1, idx, h]
  rfl

def conAhead : Con := ⟨[.imm .rcd, .v, .v], .v, fun as => match as with
  | [.sl .rcd l, .int .i64 i, .int .i64 j] => some (.bool (aheadB l i j), [])
  | _ => none⟩

def conBeside : Con := ⟨[.imm .rcd, .v, .v], .v, fun as => match as with
  | [.sl .rcd l, .int .i64 i, .int .i64 j] => some (.bool (besideB l i j), [])
  | _ => none⟩

def conPastOf : Con := ⟨[.imm .rcd, .v], .own .int, fun as => match as with
  | [.sl .rcd l, .int .i64 i] => some (.own .int (pastL l i), [])
  | _ => none⟩

def tb24 : Tab := fun f => match f with
  | 67 => some conArePl
  | 68 => some conPasts
  | _ => none

theorem tb24_67 : tb24 67 = some conArePl := rfl
theorem tb24_68 : tb24 68 = some conPasts := rfl

-- loop.example/g00678/impl.Ahead hows []
def af24 : AF := ⟨22, [.t 6],
  .seq (.reg [⟨some 6, .mv (.b false), none⟩])
  (.seq (.reg [⟨some 7, .mv (.t 0), none⟩,
    ⟨some 8, .mv (.t 1), none⟩,
    ⟨some 9, .mv (.t 2), none⟩,
    ⟨some 10, .slit .int [(.t 8), (.t 9)], none⟩,
    ⟨some 11, .call 67 [(.t 7), (.t 10)], none⟩,
    ⟨some 12, .mv (.t 11), none⟩,
    ⟨some 13, .mv (.t 0), some (12, true)⟩,
    ⟨some 14, .call 68 [(.t 13)], some (12, true)⟩,
    ⟨some 15, .mv (.t 2), some (12, true)⟩,
    ⟨some 16, .ia .bools (.t 14) (.t 15), some (12, true)⟩,
    ⟨some 17, .ld false 1 (.t 16), some (12, true)⟩,
    ⟨some 18, .mv (.t 1), some (12, true)⟩,
    ⟨some 19, .ia .bool (.t 17) (.t 18), some (12, true)⟩,
    ⟨some 20, .ld false 1 (.t 19), some (12, true)⟩,
    ⟨some 21, .pick (.t 12) (.t 20) (.b false), none⟩,
    ⟨some 6, .mv (.t 21), none⟩])
  (.ret))⟩

set_option maxHeartbeats 4000000 in
theorem does24 (as : List AV) (hok : ok 64 as) : Does tb24 af24 conAhead as := by
  cases h : (conAhead).run as with
  | none => exact does_none h
  | some out =>
    have h' := h
    simp only [conAhead] at h'
    split at h'
    · rename_i l i j
      simp only [ok] at hok
      obtain ⟨⟨hlen, _⟩, _⟩ := hok
      have hLi : (0 ≤ i ∧ i ≤ l.length - 1) → (pastS l i).length = l.length := fun h => pastS_length h.1 (by omega)
      have hLr := rowsB_length l l.length
      have hLj : (0 ≤ j ∧ j ≤ l.length - 1) → (pastS l j).length = l.length := fun h => pastS_length h.1 (by omega)
      simp only [Option.some.injEq] at h'
      subst h'
      have hmo : (most : Int) = 1099511627776 := rfl
      have hml : (maxLen : Int) = 9223372036854775807 := rfl
      with_reducible refine does_by h fun Q hQ => ?_
      clear h
      dsimp only [af24, conAhead, go_sem, Nat.reduceAdd, Nat.reduceMul, Nat.reduceSub, Nat.reduceBEq, Nat.reduceLeDiff, Nat.reduceEqDiff, ↓dreduceIte, toG, tb24_67, tb24_68, conArePl, conPasts]
      repeat' first
        | with_reducible refine kon_seq ?_
        | with_reducible refine kon_nil ?_
        | with_reducible refine kon_skip ?_
        | with_reducible refine kon_block ?_
        | with_reducible refine kon_ret ?_
        | with_reducible refine kon_exit ?_
        | with_reducible refine kon_past_ret ?_
        | with_reducible refine kon_past_exit ?_
        | with_reducible refine kon_blk_ret ?_
        | with_reducible refine kon_blk_end ?_
        | with_reducible refine kon_blk_exit ?_
        | (with_reducible refine kon_blk_past ?_ ?_
           · decide)
        | with_reducible refine loop_exit ?_
        | with_reducible refine loop_ret ?_
        | with_reducible refine mid_exit ?_
        | with_reducible refine mid_ret ?_
        | (with_reducible refine kon_bin fun R hR => ?_
           dsimp only [go_sem, Nat.reduceAdd, Nat.reduceMul, Nat.reduceSub, Nat.reduceBEq, Nat.reduceLeDiff, Nat.reduceEqDiff, ↓dreduceIte, toG, tb24_67, tb24_68, conArePl, conPasts]
           try simp (disch := first | omega | (simp only [List.length_set, List.length_append, List.length_cons, List.length_nil, List.length_replicate]; omega)) only [guardP_T, guardP_pos, iteN, rd_set, List.set_set, List.length_set, eta_fact, eta_rumor, eta_doubt, eta_item, eta_rec, eta_due, look, look0, rd_toNat, wrap64, Int.toNat_natCast, Nat.zero_add, List.take_length, List.drop_zero, and_self, setB_len, true_and, and_true, recsOk_iff, isPl_iff, isPl_not, arePl_one, arePl_two, pasts_rd, pastS_length, rowsB_length]
           with_reducible refine hR _ ?_
           clear hR R)
        | (with_reducible refine kon_conv fun R hR => ?_
           dsimp only [go_sem, Nat.reduceAdd, Nat.reduceMul, Nat.reduceSub, Nat.reduceBEq, Nat.reduceLeDiff, Nat.reduceEqDiff, ↓dreduceIte, toG, tb24_67, tb24_68, conArePl, conPasts]
           try simp (disch := first | omega | (simp only [List.length_set, List.length_append, List.length_cons, List.length_nil, List.length_replicate]; omega)) only [guardP_T, guardP_pos, iteN, rd_set, List.set_set, List.length_set, eta_fact, eta_rumor, eta_doubt, eta_item, eta_rec, eta_due, look, look0, rd_toNat, wrap64, Int.toNat_natCast, Nat.zero_add, List.take_length, List.drop_zero, and_self, setB_len, true_and, and_true, recsOk_iff, isPl_iff, isPl_not, arePl_one, arePl_two, pasts_rd, pastS_length, rowsB_length]
           with_reducible refine hR _ ?_
           clear hR R)
        | (with_reducible refine kon_ins fun R hR => ?_
           dsimp only [go_sem, Nat.reduceAdd, Nat.reduceMul, Nat.reduceSub, Nat.reduceBEq, Nat.reduceLeDiff, Nat.reduceEqDiff, ↓dreduceIte, toG, tb24_67, tb24_68, conArePl, conPasts]
           first
             | with_reducible refine hR _ ?_
             | (simp (disch := first | omega | (simp only [List.length_set, List.length_append, List.length_cons, List.length_nil, List.length_replicate]; omega)) only [guardP_T, guardP_pos, iteN, rd_set, List.set_set, List.length_set, eta_fact, eta_rumor, eta_doubt, eta_item, eta_rec, eta_due, look, look0, rd_toNat, wrap64, Int.toNat_natCast, Nat.zero_add, List.take_length, List.drop_zero, and_self, setB_len, true_and, and_true, recsOk_iff, isPl_iff, isPl_not, arePl_one, arePl_two, pasts_rd, pastS_length, rowsB_length]
                try dsimp only [go_sem, Nat.reduceAdd, Nat.reduceMul, Nat.reduceSub, Nat.reduceBEq, Nat.reduceLeDiff, Nat.reduceEqDiff, ↓dreduceIte, toG, tb24_67, tb24_68, conArePl, conPasts]
                try simp (disch := first | omega | (simp only [List.length_set, List.length_append, List.length_cons, List.length_nil, List.length_replicate]; omega)) only [guardP_T, guardP_pos, iteN, rd_set, List.set_set, List.length_set, eta_fact, eta_rumor, eta_doubt, eta_item, eta_rec, eta_due, look, look0, rd_toNat, wrap64, Int.toNat_natCast, Nat.zero_add, List.take_length, List.drop_zero, and_self, setB_len, true_and, and_true, recsOk_iff, isPl_iff, isPl_not, arePl_one, arePl_two, pasts_rd, pastS_length, rowsB_length]
                with_reducible refine hR _ ?_)
           clear hR R)
        | (with_reducible refine kon_g_run ?_ ?_
           · dsimp only [nth] <;> with_reducible rfl)
        | (with_reducible refine kon_g_skip ?_ ?_
           · dsimp only [nth, not_t', not_f'] <;> with_reducible rfl
           dsimp only [go_sem])
        | (with_reducible refine kon_g_undef ?_ ?_
           · dsimp only [nth] <;> with_reducible rfl
           dsimp only [go_sem])
        | (with_reducible refine kon_g fun R hR => ?_
           dsimp only [go_sem, Nat.reduceAdd, Nat.reduceMul, Nat.reduceSub, Nat.reduceBEq, Nat.reduceLeDiff, Nat.reduceEqDiff, ↓dreduceIte, toG, tb24_67, tb24_68, conArePl, conPasts]
           split <;> (rename_i hb; with_reducible refine hR _ ?_; clear hR R; try simp only [hb]; try simp only [decide_eq_true_eq, decide_eq_false_iff_not, beq_iff_eq, beq_eq_false_iff_ne, bne_iff_ne, bne_eq_false_iff_eq, Bool.not_eq_true, Bool.not_eq_false, Bool.not_eq_eq_eq_not, Bool.not_true, Bool.not_false, ne_eq, Int.not_lt, Int.not_le, eq_self, not_true_eq_false, not_false_eq_true, decide_true, decide_false, Bool.and_eq_true, Bool.or_eq_true, Bool.and_eq_false_iff, Bool.or_eq_false_iff, gt_iff_lt, ge_iff_le, Bool.false_eq_true, Bool.true_eq_false, reduceCtorEq, or_false, false_or, or_true, true_or, false_and, and_false, recsOk_iff, isPl_iff, isPl_not, arePl_one, arePl_two, pasts_rd, pastS_length, rowsB_length] at hb; try (exfalso; omega)))
        | (with_reducible refine kon_cond fun R1 R2 h1 h2 => ?_
           dsimp only [go_sem]
           first
             | (with_reducible refine h1 ?_; clear h1 h2 R1 R2)
             | (with_reducible refine h2 ?_; clear h1 h2 R1 R2)
             | (split <;> rename_i hb <;> first
                 | (with_reducible refine h1 ?_; clear h1 h2 R1 R2; try simp only [hb]; try simp only [decide_eq_true_eq, decide_eq_false_iff_not, beq_iff_eq, beq_eq_false_iff_ne, bne_iff_ne, bne_eq_false_iff_eq, Bool.not_eq_true, Bool.not_eq_false, Bool.not_eq_eq_eq_not, Bool.not_true, Bool.not_false, ne_eq, Int.not_lt, Int.not_le, eq_self, not_true_eq_false, not_false_eq_true, decide_true, decide_false, Bool.and_eq_true, Bool.or_eq_true, Bool.and_eq_false_iff, Bool.or_eq_false_iff, gt_iff_lt, ge_iff_le, Bool.false_eq_true, Bool.true_eq_false, reduceCtorEq, or_false, false_or, or_true, true_or, false_and, and_false, recsOk_iff, isPl_iff, isPl_not, arePl_one, arePl_two, pasts_rd, pastS_length, rowsB_length] at hb; try (exfalso; omega))
                 | (with_reducible refine h2 ?_; clear h1 h2 R1 R2; try simp only [hb]; try simp only [decide_eq_true_eq, decide_eq_false_iff_not, beq_iff_eq, beq_eq_false_iff_ne, bne_iff_ne, bne_eq_false_iff_eq, Bool.not_eq_true, Bool.not_eq_false, Bool.not_eq_eq_eq_not, Bool.not_true, Bool.not_false, ne_eq, Int.not_lt, Int.not_le, eq_self, not_true_eq_false, not_false_eq_true, decide_true, decide_false, Bool.and_eq_true, Bool.or_eq_true, Bool.and_eq_false_iff, Bool.or_eq_false_iff, gt_iff_lt, ge_iff_le, Bool.false_eq_true, Bool.true_eq_false, reduceCtorEq, or_false, false_or, or_true, true_or, false_and, and_false, recsOk_iff, isPl_iff, isPl_not, arePl_one, arePl_two, pasts_rd, pastS_length, rowsB_length] at hb; try (exfalso; omega))))
      all_goals first
        | (dsimp only [kon]
           with_reducible refine hQ _ _ _ ?_
           dsimp only [kon, endQ, af24, conAhead, go_sem, Nat.reduceAdd, Nat.reduceMul, Nat.reduceSub, Nat.reduceBEq, Nat.reduceLeDiff, Nat.reduceEqDiff, ↓dreduceIte, toG, tb24_67, tb24_68, conArePl, conPasts]
           try simp (disch := first | omega | (simp only [List.length_set, List.length_append, List.length_cons, List.length_nil, List.length_replicate]; omega)) only [guardP_T, guardP_pos, iteN, rd_set, List.set_set, List.length_set, eta_fact, eta_rumor, eta_doubt, eta_item, eta_rec, eta_due, look, look0, rd_toNat, wrap64, Int.toNat_natCast, Nat.zero_add, List.take_length, List.drop_zero, and_self, setB_len, true_and, and_true]
           try dsimp only [go_sem, Nat.reduceAdd, Nat.reduceMul, Nat.reduceSub, Nat.reduceBEq, Nat.reduceLeDiff, Nat.reduceEqDiff, ↓dreduceIte, toG, tb24_67, tb24_68, conArePl, conPasts])
        | skip
      all_goals try first
        | omega
        | (simp; done)
        | (simp; omega)
      all_goals
        by_cases c1 : recsOk l = true
        · by_cases c2 : isPl l i = true
          · by_cases c3 : isPl l j = true
            · first
                | (simp_all [aheadB, besideB]; done)
                | (rw [isPl_iff] at c2 c3; exfalso; simp_all; done)
                | (rw [isPl_iff] at c2 c3; exfalso; simp_all; omega)
            · first
                | (simp [aheadB, besideB, c3]; done)
                | (rw [isPl_iff] at c3; exfalso; omega)
          · first
              | (simp [aheadB, besideB, c2]; done)
              | (rw [isPl_iff] at c2; exfalso; omega)
        · first
            | (simp [aheadB, besideB, c1]; done)
            | (rw [recsOk_iff] at c1; exfalso; simp_all; done)
    · simp at h'

def tb23 : Tab := fun f => match f with
  | 54 => some conRecsOk
  | 65 => some conPlace
  | 66 => some conPast
  | _ => none

theorem tb23_54 : tb23 54 = some conRecsOk := rfl
theorem tb23_65 : tb23 65 = some conPlace := rfl
theorem tb23_66 : tb23 66 = some conPast := rfl

-- loop.example/g00678/spec.Ahead hows []
def af23 : AF := ⟨27, [.t 6],
  .seq (.reg [⟨some 6, .mv (.b false), none⟩])
  (.seq (.reg [⟨some 7, .mv (.t 0), none⟩,
    ⟨some 8, .call 54 [(.t 7)], none⟩,
    ⟨some 9, .mv (.t 8), none⟩,
    ⟨some 10, .mv (.t 0), some (9, true)⟩,
    ⟨some 11, .mv (.t 1), some (9, true)⟩,
    ⟨some 12, .call 65 [(.t 10), (.t 11)], some (9, true)⟩,
    ⟨some 13, .pick (.t 9) (.t 12) (.b false), none⟩,
    ⟨some 14, .mv (.t 13), none⟩,
    ⟨some 15, .mv (.t 0), some (14, true)⟩,
    ⟨some 16, .mv (.t 2), some (14, true)⟩,
    ⟨some 17, .call 65 [(.t 15), (.t 16)], some (14, true)⟩,
    ⟨some 18, .pick (.t 14) (.t 17) (.b false), none⟩,
    ⟨some 19, .mv (.t 18), none⟩,
    ⟨some 20, .mv (.t 0), some (19, true)⟩,
    ⟨some 21, .mv (.t 2), some (19, true)⟩,
    ⟨some 22, .call 66 [(.t 20), (.t 21)], some (19, true)⟩,
    ⟨some 23, .mv (.t 1), some (19, true)⟩,
    ⟨some 24, .ia .bool (.t 22) (.t 23), some (19, true)⟩,
    ⟨some 25, .ld false 1 (.t 24), some (19, true)⟩,
    ⟨some 26, .pick (.t 19) (.t 25) (.b false), none⟩,
    ⟨some 6, .mv (.t 26), none⟩])
  (.ret))⟩

set_option maxHeartbeats 4000000 in
theorem does23 (as : List AV) (hok : ok 64 as) : Does tb23 af23 conAhead as := by
  cases h : (conAhead).run as with
  | none => exact does_none h
  | some out =>
    have h' := h
    simp only [conAhead] at h'
    split at h'
    · rename_i l i j
      simp only [ok] at hok
      obtain ⟨⟨hlen, _⟩, _⟩ := hok
      have hLi : (0 ≤ i ∧ i ≤ l.length - 1) → (pastS l i).length = l.length := fun h => pastS_length h.1 (by omega)
      have hLr := rowsB_length l l.length
      have hLj : (0 ≤ j ∧ j ≤ l.length - 1) → (pastS l j).length = l.length := fun h => pastS_length h.1 (by omega)
      simp only [Option.some.injEq] at h'
      subst h'
      have hmo : (most : Int) = 1099511627776 := rfl
      have hml : (maxLen : Int) = 9223372036854775807 := rfl
      with_reducible refine does_by h fun Q hQ => ?_
      clear h
      dsimp only [af23, conAhead, go_sem, Nat.reduceAdd, Nat.reduceMul, Nat.reduceSub, Nat.reduceBEq, Nat.reduceLeDiff, Nat.reduceEqDiff, ↓dreduceIte, toG, tb23_54, tb23_65, tb23_66, conPast, conPlace, conRecsOk]
      repeat' first
        | with_reducible refine kon_seq ?_
        | with_reducible refine kon_nil ?_
        | with_reducible refine kon_skip ?_
        | with_reducible refine kon_block ?_
        | with_reducible refine kon_ret ?_
        | with_reducible refine kon_exit ?_
        | with_reducible refine kon_past_ret ?_
        | with_reducible refine kon_past_exit ?_
        | with_reducible refine kon_blk_ret ?_
        | with_reducible refine kon_blk_end ?_
        | with_reducible refine kon_blk_exit ?_
        | (with_reducible refine kon_blk_past ?_ ?_
           · decide)
        | with_reducible refine loop_exit ?_
        | with_reducible refine loop_ret ?_
        | with_reducible refine mid_exit ?_
        | with_reducible refine mid_ret ?_
        | (with_reducible refine kon_bin fun R hR => ?_
           dsimp only [go_sem, Nat.reduceAdd, Nat.reduceMul, Nat.reduceSub, Nat.reduceBEq, Nat.reduceLeDiff, Nat.reduceEqDiff, ↓dreduceIte, toG, tb23_54, tb23_65, tb23_66, conPast, conPlace, conRecsOk]
           try simp (disch := first | omega | (simp only [List.length_set, List.length_append, List.length_cons, List.length_nil, List.length_replicate]; omega)) only [guardP_T, guardP_pos, iteN, rd_set, List.set_set, List.length_set, eta_fact, eta_rumor, eta_doubt, eta_item, eta_rec, eta_due, look, look0, rd_toNat, wrap64, Int.toNat_natCast, Nat.zero_add, List.take_length, List.drop_zero, and_self, setB_len, true_and, and_true, recsOk_iff, isPl_iff, isPl_not, arePl_one, arePl_two, pasts_rd, pastS_length, rowsB_length]
           with_reducible refine hR _ ?_
           clear hR R)
        | (with_reducible refine kon_conv fun R hR => ?_
           dsimp only [go_sem, Nat.reduceAdd, Nat.reduceMul, Nat.reduceSub, Nat.reduceBEq, Nat.reduceLeDiff, Nat.reduceEqDiff, ↓dreduceIte, toG, tb23_54, tb23_65, tb23_66, conPast, conPlace, conRecsOk]
           try simp (disch := first | omega | (simp only [List.length_set, List.length_append, List.length_cons, List.length_nil, List.length_replicate]; omega)) only [guardP_T, guardP_pos, iteN, rd_set, List.set_set, List.length_set, eta_fact, eta_rumor, eta_doubt, eta_item, eta_rec, eta_due, look, look0, rd_toNat, wrap64, Int.toNat_natCast, Nat.zero_add, List.take_length, List.drop_zero, and_self, setB_len, true_and, and_true, recsOk_iff, isPl_iff, isPl_not, arePl_one, arePl_two, pasts_rd, pastS_length, rowsB_length]
           with_reducible refine hR _ ?_
           clear hR R)
        | (with_reducible refine kon_ins fun R hR => ?_
           dsimp only [go_sem, Nat.reduceAdd, Nat.reduceMul, Nat.reduceSub, Nat.reduceBEq, Nat.reduceLeDiff, Nat.reduceEqDiff, ↓dreduceIte, toG, tb23_54, tb23_65, tb23_66, conPast, conPlace, conRecsOk]
           first
             | with_reducible refine hR _ ?_
             | (simp (disch := first | omega | (simp only [List.length_set, List.length_append, List.length_cons, List.length_nil, List.length_replicate]; omega)) only [guardP_T, guardP_pos, iteN, rd_set, List.set_set, List.length_set, eta_fact, eta_rumor, eta_doubt, eta_item, eta_rec, eta_due, look, look0, rd_toNat, wrap64, Int.toNat_natCast, Nat.zero_add, List.take_length, List.drop_zero, and_self, setB_len, true_and, and_true, recsOk_iff, isPl_iff, isPl_not, arePl_one, arePl_two, pasts_rd, pastS_length, rowsB_length]
                try dsimp only [go_sem, Nat.reduceAdd, Nat.reduceMul, Nat.reduceSub, Nat.reduceBEq, Nat.reduceLeDiff, Nat.reduceEqDiff, ↓dreduceIte, toG, tb23_54, tb23_65, tb23_66, conPast, conPlace, conRecsOk]
                try simp (disch := first | omega | (simp only [List.length_set, List.length_append, List.length_cons, List.length_nil, List.length_replicate]; omega)) only [guardP_T, guardP_pos, iteN, rd_set, List.set_set, List.length_set, eta_fact, eta_rumor, eta_doubt, eta_item, eta_rec, eta_due, look, look0, rd_toNat, wrap64, Int.toNat_natCast, Nat.zero_add, List.take_length, List.drop_zero, and_self, setB_len, true_and, and_true, recsOk_iff, isPl_iff, isPl_not, arePl_one, arePl_two, pasts_rd, pastS_length, rowsB_length]
                with_reducible refine hR _ ?_)
           clear hR R)
        | (with_reducible refine kon_g_run ?_ ?_
           · dsimp only [nth] <;> with_reducible rfl)
        | (with_reducible refine kon_g_skip ?_ ?_
           · dsimp only [nth, not_t', not_f'] <;> with_reducible rfl
           dsimp only [go_sem])
        | (with_reducible refine kon_g_undef ?_ ?_
           · dsimp only [nth] <;> with_reducible rfl
           dsimp only [go_sem])
        | (with_reducible refine kon_g fun R hR => ?_
           dsimp only [go_sem, Nat.reduceAdd, Nat.reduceMul, Nat.reduceSub, Nat.reduceBEq, Nat.reduceLeDiff, Nat.reduceEqDiff, ↓dreduceIte, toG, tb23_54, tb23_65, tb23_66, conPast, conPlace, conRecsOk]
           split <;> (rename_i hb; with_reducible refine hR _ ?_; clear hR R; try simp only [hb]; try simp only [decide_eq_true_eq, decide_eq_false_iff_not, beq_iff_eq, beq_eq_false_iff_ne, bne_iff_ne, bne_eq_false_iff_eq, Bool.not_eq_true, Bool.not_eq_false, Bool.not_eq_eq_eq_not, Bool.not_true, Bool.not_false, ne_eq, Int.not_lt, Int.not_le, eq_self, not_true_eq_false, not_false_eq_true, decide_true, decide_false, Bool.and_eq_true, Bool.or_eq_true, Bool.and_eq_false_iff, Bool.or_eq_false_iff, gt_iff_lt, ge_iff_le, Bool.false_eq_true, Bool.true_eq_false, reduceCtorEq, or_false, false_or, or_true, true_or, false_and, and_false, recsOk_iff, isPl_iff, isPl_not, arePl_one, arePl_two, pasts_rd, pastS_length, rowsB_length] at hb; try (exfalso; omega)))
        | (with_reducible refine kon_cond fun R1 R2 h1 h2 => ?_
           dsimp only [go_sem]
           first
             | (with_reducible refine h1 ?_; clear h1 h2 R1 R2)
             | (with_reducible refine h2 ?_; clear h1 h2 R1 R2)
             | (split <;> rename_i hb <;> first
                 | (with_reducible refine h1 ?_; clear h1 h2 R1 R2; try simp only [hb]; try simp only [decide_eq_true_eq, decide_eq_false_iff_not, beq_iff_eq, beq_eq_false_iff_ne, bne_iff_ne, bne_eq_false_iff_eq, Bool.not_eq_true, Bool.not_eq_false, Bool.not_eq_eq_eq_not, Bool.not_true, Bool.not_false, ne_eq, Int.not_lt, Int.not_le, eq_self, not_true_eq_false, not_false_eq_true, decide_true, decide_false, Bool.and_eq_true, Bool.or_eq_true, Bool.and_eq_false_iff, Bool.or_eq_false_iff, gt_iff_lt, ge_iff_le, Bool.false_eq_true, Bool.true_eq_false, reduceCtorEq, or_false, false_or, or_true, true_or, false_and, and_false, recsOk_iff, isPl_iff, isPl_not, arePl_one, arePl_two, pasts_rd, pastS_length, rowsB_length] at hb; try (exfalso; omega))
                 | (with_reducible refine h2 ?_; clear h1 h2 R1 R2; try simp only [hb]; try simp only [decide_eq_true_eq, decide_eq_false_iff_not, beq_iff_eq, beq_eq_false_iff_ne, bne_iff_ne, bne_eq_false_iff_eq, Bool.not_eq_true, Bool.not_eq_false, Bool.not_eq_eq_eq_not, Bool.not_true, Bool.not_false, ne_eq, Int.not_lt, Int.not_le, eq_self, not_true_eq_false, not_false_eq_true, decide_true, decide_false, Bool.and_eq_true, Bool.or_eq_true, Bool.and_eq_false_iff, Bool.or_eq_false_iff, gt_iff_lt, ge_iff_le, Bool.false_eq_true, Bool.true_eq_false, reduceCtorEq, or_false, false_or, or_true, true_or, false_and, and_false, recsOk_iff, isPl_iff, isPl_not, arePl_one, arePl_two, pasts_rd, pastS_length, rowsB_length] at hb; try (exfalso; omega))))
      all_goals first
        | (dsimp only [kon]
           with_reducible refine hQ _ _ _ ?_
           dsimp only [kon, endQ, af23, conAhead, go_sem, Nat.reduceAdd, Nat.reduceMul, Nat.reduceSub, Nat.reduceBEq, Nat.reduceLeDiff, Nat.reduceEqDiff, ↓dreduceIte, toG, tb23_54, tb23_65, tb23_66, conPast, conPlace, conRecsOk]
           try simp (disch := first | omega | (simp only [List.length_set, List.length_append, List.length_cons, List.length_nil, List.length_replicate]; omega)) only [guardP_T, guardP_pos, iteN, rd_set, List.set_set, List.length_set, eta_fact, eta_rumor, eta_doubt, eta_item, eta_rec, eta_due, look, look0, rd_toNat, wrap64, Int.toNat_natCast, Nat.zero_add, List.take_length, List.drop_zero, and_self, setB_len, true_and, and_true]
           try dsimp only [go_sem, Nat.reduceAdd, Nat.reduceMul, Nat.reduceSub, Nat.reduceBEq, Nat.reduceLeDiff, Nat.reduceEqDiff, ↓dreduceIte, toG, tb23_54, tb23_65, tb23_66, conPast, conPlace, conRecsOk])
        | skip
      all_goals try first
        | omega
        | (simp; done)
        | (simp; omega)
      all_goals
        by_cases c1 : recsOk l = true
        · by_cases c2 : isPl l i = true
          · by_cases c3 : isPl l j = true
            · first
                | (simp_all [aheadB, besideB]; done)
                | (rw [isPl_iff] at c2 c3; exfalso; simp_all; done)
                | (rw [isPl_iff] at c2 c3; exfalso; simp_all; omega)
            · first
                | (simp [aheadB, besideB, c3]; done)
                | (rw [isPl_iff] at c3; exfalso; omega)
          · first
              | (simp [aheadB, besideB, c2]; done)
              | (rw [isPl_iff] at c2; exfalso; omega)
        · first
            | (simp [aheadB, besideB, c1]; done)
            | (rw [recsOk_iff] at c1; exfalso; simp_all; done)
    · simp at h'

-- loop.example/g00678/impl.Beside hows []
def af26 : AF := ⟨39, [.t 6],
  .seq (.reg [⟨some 6, .mv (.b false), none⟩])
  (.seq (.seq (.reg [⟨some 8, .mv (.t 0), none⟩,
    ⟨some 9, .mv (.t 1), none⟩,
    ⟨some 10, .mv (.t 2), none⟩,
    ⟨some 11, .slit .int [(.t 9), (.t 10)], none⟩,
    ⟨some 12, .call 67 [(.t 8), (.t 11)], none⟩,
    ⟨some 13, .un .not (.t 12), none⟩])
  (.cond (.t 13)
    (.seq (.reg [⟨some 6, .mv (.b false), none⟩])
    (.ret))
    (.skip)))
  (.seq (.reg [⟨some 14, .mv (.t 0), none⟩,
    ⟨some 15, .call 68 [(.t 14)], none⟩,
    ⟨some 7, .mv (.t 15), none⟩])
  (.seq (.reg [⟨some 16, .mv (.t 1), none⟩,
    ⟨some 17, .mv (.t 2), none⟩,
    ⟨some 18, .bin .neq (.t 16) (.t 17), none⟩,
    ⟨some 19, .mv (.t 18), none⟩,
    ⟨some 20, .mv (.t 7), some (19, true)⟩,
    ⟨some 21, .mv (.t 1), some (19, true)⟩,
    ⟨some 22, .ia .bools (.t 20) (.t 21), some (19, true)⟩,
    ⟨some 23, .ld false 1 (.t 22), some (19, true)⟩,
    ⟨some 24, .mv (.t 2), some (19, true)⟩,
    ⟨some 25, .ia .bool (.t 23) (.t 24), some (19, true)⟩,
    ⟨some 26, .ld false 1 (.t 25), some (19, true)⟩,
    ⟨some 27, .un .not (.t 26), some (19, true)⟩,
    ⟨some 28, .pick (.t 19) (.t 27) (.b false), none⟩,
    ⟨some 29, .mv (.t 28), none⟩,
    ⟨some 30, .mv (.t 7), some (29, true)⟩,
    ⟨some 31, .mv (.t 2), some (29, true)⟩,
    ⟨some 32, .ia .bools (.t 30) (.t 31), some (29, true)⟩,
    ⟨some 33, .ld false 1 (.t 32), some (29, true)⟩,
    ⟨some 34, .mv (.t 1), some (29, true)⟩,
    ⟨some 35, .ia .bool (.t 33) (.t 34), some (29, true)⟩,
    ⟨some 36, .ld false 1 (.t 35), some (29, true)⟩,
    ⟨some 37, .un .not (.t 36), some (29, true)⟩,
    ⟨some 38, .pick (.t 29) (.t 37) (.b false), none⟩,
    ⟨some 6, .mv (.t 38), none⟩])
  (.ret))))⟩

set_option maxHeartbeats 4000000 in
theorem does26 (as : List AV) (hok : ok 64 as) : Does tb24 af26 conBeside as := by
  cases h : (conBeside).run as with
  | none => exact does_none h
  | some out =>
    have h' := h
    simp only [conBeside] at h'
    split at h'
    · rename_i l i j
      simp only [ok] at hok
      obtain ⟨⟨hlen, _⟩, _⟩ := hok
      have hLi : (0 ≤ i ∧ i ≤ l.length - 1) → (pastS l i).length = l.length := fun h => pastS_length h.1 (by omega)
      have hLr := rowsB_length l l.length
      have hLj : (0 ≤ j ∧ j ≤ l.length - 1) → (pastS l j).length = l.length := fun h => pastS_length h.1 (by omega)
      simp only [Option.some.injEq] at h'
      subst h'
      have hmo : (most : Int) = 1099511627776 := rfl
      have hml : (maxLen : Int) = 9223372036854775807 := rfl
      with_reducible refine does_by h fun Q hQ => ?_
      clear h
      dsimp only [af26, conBeside, go_sem, Nat.reduceAdd, Nat.reduceMul, Nat.reduceSub, Nat.reduceBEq, Nat.reduceLeDiff, Nat.reduceEqDiff, ↓dreduceIte, toG, tb24_67, tb24_68, conArePl, conPasts]
      repeat' first
        | with_reducible refine kon_seq ?_
        | with_reducible refine kon_nil ?_
        | with_reducible refine kon_skip ?_
        | with_reducible refine kon_block ?_
        | with_reducible refine kon_ret ?_
        | with_reducible refine kon_exit ?_
        | with_reducible refine kon_past_ret ?_
        | with_reducible refine kon_past_exit ?_
        | with_reducible refine kon_blk_ret ?_
        | with_reducible refine kon_blk_end ?_
        | with_reducible refine kon_blk_exit ?_
        | (with_reducible refine kon_blk_past ?_ ?_
           · decide)
        | with_reducible refine loop_exit ?_
        | with_reducible refine loop_ret ?_
        | with_reducible refine mid_exit ?_
        | with_reducible refine mid_ret ?_
        | (with_reducible refine kon_bin fun R hR => ?_
           dsimp only [go_sem, Nat.reduceAdd, Nat.reduceMul, Nat.reduceSub, Nat.reduceBEq, Nat.reduceLeDiff, Nat.reduceEqDiff, ↓dreduceIte, toG, tb24_67, tb24_68, conArePl, conPasts]
           try simp (disch := first | omega | (simp only [List.length_set, List.length_append, List.length_cons, List.length_nil, List.length_replicate]; omega)) only [guardP_T, guardP_pos, iteN, rd_set, List.set_set, List.length_set, eta_fact, eta_rumor, eta_doubt, eta_item, eta_rec, eta_due, look, look0, rd_toNat, wrap64, Int.toNat_natCast, Nat.zero_add, List.take_length, List.drop_zero, and_self, setB_len, true_and, and_true, recsOk_iff, isPl_iff, isPl_not, arePl_one, arePl_two, pasts_rd, pastS_length, rowsB_length]
           with_reducible refine hR _ ?_
           clear hR R)
        | (with_reducible refine kon_conv fun R hR => ?_
           dsimp only [go_sem, Nat.reduceAdd, Nat.reduceMul, Nat.reduceSub, Nat.reduceBEq, Nat.reduceLeDiff, Nat.reduceEqDiff, ↓dreduceIte, toG, tb24_67, tb24_68, conArePl, conPasts]
           try simp (disch := first | omega | (simp only [List.length_set, List.length_append, List.length_cons, List.length_nil, List.length_replicate]; omega)) only [guardP_T, guardP_pos, iteN, rd_set, List.set_set, List.length_set, eta_fact, eta_rumor, eta_doubt, eta_item, eta_rec, eta_due, look, look0, rd_toNat, wrap64, Int.toNat_natCast, Nat.zero_add, List.take_length, List.drop_zero, and_self, setB_len, true_and, and_true, recsOk_iff, isPl_iff, isPl_not, arePl_one, arePl_two, pasts_rd, pastS_length, rowsB_length]
           with_reducible refine hR _ ?_
           clear hR R)
        | (with_reducible refine kon_ins fun R hR => ?_
           dsimp only [go_sem, Nat.reduceAdd, Nat.reduceMul, Nat.reduceSub, Nat.reduceBEq, Nat.reduceLeDiff, Nat.reduceEqDiff, ↓dreduceIte, toG, tb24_67, tb24_68, conArePl, conPasts]
           first
             | with_reducible refine hR _ ?_
             | (simp (disch := first | omega | (simp only [List.length_set, List.length_append, List.length_cons, List.length_nil, List.length_replicate]; omega)) only [guardP_T, guardP_pos, iteN, rd_set, List.set_set, List.length_set, eta_fact, eta_rumor, eta_doubt, eta_item, eta_rec, eta_due, look, look0, rd_toNat, wrap64, Int.toNat_natCast, Nat.zero_add, List.take_length, List.drop_zero, and_self, setB_len, true_and, and_true, recsOk_iff, isPl_iff, isPl_not, arePl_one, arePl_two, pasts_rd, pastS_length, rowsB_length]
                try dsimp only [go_sem, Nat.reduceAdd, Nat.reduceMul, Nat.reduceSub, Nat.reduceBEq, Nat.reduceLeDiff, Nat.reduceEqDiff, ↓dreduceIte, toG, tb24_67, tb24_68, conArePl, conPasts]
                try simp (disch := first | omega | (simp only [List.length_set, List.length_append, List.length_cons, List.length_nil, List.length_replicate]; omega)) only [guardP_T, guardP_pos, iteN, rd_set, List.set_set, List.length_set, eta_fact, eta_rumor, eta_doubt, eta_item, eta_rec, eta_due, look, look0, rd_toNat, wrap64, Int.toNat_natCast, Nat.zero_add, List.take_length, List.drop_zero, and_self, setB_len, true_and, and_true, recsOk_iff, isPl_iff, isPl_not, arePl_one, arePl_two, pasts_rd, pastS_length, rowsB_length]
                with_reducible refine hR _ ?_)
           clear hR R)
        | (with_reducible refine kon_g_run ?_ ?_
           · dsimp only [nth] <;> with_reducible rfl)
        | (with_reducible refine kon_g_skip ?_ ?_
           · dsimp only [nth, not_t', not_f'] <;> with_reducible rfl
           dsimp only [go_sem])
        | (with_reducible refine kon_g_undef ?_ ?_
           · dsimp only [nth] <;> with_reducible rfl
           dsimp only [go_sem])
        | (with_reducible refine kon_g fun R hR => ?_
           dsimp only [go_sem, Nat.reduceAdd, Nat.reduceMul, Nat.reduceSub, Nat.reduceBEq, Nat.reduceLeDiff, Nat.reduceEqDiff, ↓dreduceIte, toG, tb24_67, tb24_68, conArePl, conPasts]
           split <;> (rename_i hb; with_reducible refine hR _ ?_; clear hR R; try simp only [hb]; try simp only [decide_eq_true_eq, decide_eq_false_iff_not, beq_iff_eq, beq_eq_false_iff_ne, bne_iff_ne, bne_eq_false_iff_eq, Bool.not_eq_true, Bool.not_eq_false, Bool.not_eq_eq_eq_not, Bool.not_true, Bool.not_false, ne_eq, Int.not_lt, Int.not_le, eq_self, not_true_eq_false, not_false_eq_true, decide_true, decide_false, Bool.and_eq_true, Bool.or_eq_true, Bool.and_eq_false_iff, Bool.or_eq_false_iff, gt_iff_lt, ge_iff_le, Bool.false_eq_true, Bool.true_eq_false, reduceCtorEq, or_false, false_or, or_true, true_or, false_and, and_false, recsOk_iff, isPl_iff, isPl_not, arePl_one, arePl_two, pasts_rd, pastS_length, rowsB_length] at hb; try (exfalso; omega)))
        | (with_reducible refine kon_cond fun R1 R2 h1 h2 => ?_
           dsimp only [go_sem]
           first
             | (with_reducible refine h1 ?_; clear h1 h2 R1 R2)
             | (with_reducible refine h2 ?_; clear h1 h2 R1 R2)
             | (split <;> rename_i hb <;> first
                 | (with_reducible refine h1 ?_; clear h1 h2 R1 R2; try simp only [hb]; try simp only [decide_eq_true_eq, decide_eq_false_iff_not, beq_iff_eq, beq_eq_false_iff_ne, bne_iff_ne, bne_eq_false_iff_eq, Bool.not_eq_true, Bool.not_eq_false, Bool.not_eq_eq_eq_not, Bool.not_true, Bool.not_false, ne_eq, Int.not_lt, Int.not_le, eq_self, not_true_eq_false, not_false_eq_true, decide_true, decide_false, Bool.and_eq_true, Bool.or_eq_true, Bool.and_eq_false_iff, Bool.or_eq_false_iff, gt_iff_lt, ge_iff_le, Bool.false_eq_true, Bool.true_eq_false, reduceCtorEq, or_false, false_or, or_true, true_or, false_and, and_false, recsOk_iff, isPl_iff, isPl_not, arePl_one, arePl_two, pasts_rd, pastS_length, rowsB_length] at hb; try (exfalso; omega))
                 | (with_reducible refine h2 ?_; clear h1 h2 R1 R2; try simp only [hb]; try simp only [decide_eq_true_eq, decide_eq_false_iff_not, beq_iff_eq, beq_eq_false_iff_ne, bne_iff_ne, bne_eq_false_iff_eq, Bool.not_eq_true, Bool.not_eq_false, Bool.not_eq_eq_eq_not, Bool.not_true, Bool.not_false, ne_eq, Int.not_lt, Int.not_le, eq_self, not_true_eq_false, not_false_eq_true, decide_true, decide_false, Bool.and_eq_true, Bool.or_eq_true, Bool.and_eq_false_iff, Bool.or_eq_false_iff, gt_iff_lt, ge_iff_le, Bool.false_eq_true, Bool.true_eq_false, reduceCtorEq, or_false, false_or, or_true, true_or, false_and, and_false, recsOk_iff, isPl_iff, isPl_not, arePl_one, arePl_two, pasts_rd, pastS_length, rowsB_length] at hb; try (exfalso; omega))))
      all_goals first
        | (dsimp only [kon]
           with_reducible refine hQ _ _ _ ?_
           dsimp only [kon, endQ, af26, conBeside, go_sem, Nat.reduceAdd, Nat.reduceMul, Nat.reduceSub, Nat.reduceBEq, Nat.reduceLeDiff, Nat.reduceEqDiff, ↓dreduceIte, toG, tb24_67, tb24_68, conArePl, conPasts]
           try simp (disch := first | omega | (simp only [List.length_set, List.length_append, List.length_cons, List.length_nil, List.length_replicate]; omega)) only [guardP_T, guardP_pos, iteN, rd_set, List.set_set, List.length_set, eta_fact, eta_rumor, eta_doubt, eta_item, eta_rec, eta_due, look, look0, rd_toNat, wrap64, Int.toNat_natCast, Nat.zero_add, List.take_length, List.drop_zero, and_self, setB_len, true_and, and_true]
           try dsimp only [go_sem, Nat.reduceAdd, Nat.reduceMul, Nat.reduceSub, Nat.reduceBEq, Nat.reduceLeDiff, Nat.reduceEqDiff, ↓dreduceIte, toG, tb24_67, tb24_68, conArePl, conPasts])
        | skip
      all_goals try first
        | omega
        | (simp; done)
        | (simp; omega)
      all_goals
        by_cases c1 : recsOk l = true
        · by_cases c2 : isPl l i = true
          · by_cases c3 : isPl l j = true
            · first
                | (simp_all [aheadB, besideB]; done)
                | (rw [isPl_iff] at c2 c3; exfalso; simp_all; done)
                | (rw [isPl_iff] at c2 c3; exfalso; simp_all; omega)
            · first
                | (simp [aheadB, besideB, c3]; done)
                | (rw [isPl_iff] at c3; exfalso; omega)
          · first
              | (simp [aheadB, besideB, c2]; done)
              | (rw [isPl_iff] at c2; exfalso; omega)
        · first
            | (simp [aheadB, besideB, c1]; done)
            | (rw [recsOk_iff] at c1; exfalso; simp_all; done)
    · simp at h'

-- loop.example/g00678/spec.Beside hows []
def af25 : AF := ⟨42, [.t 6],
  .seq (.reg [⟨some 6, .mv (.b false), none⟩])
  (.seq (.reg [⟨some 7, .mv (.t 0), none⟩,
    ⟨some 8, .call 54 [(.t 7)], none⟩,
    ⟨some 9, .mv (.t 8), none⟩,
    ⟨some 10, .mv (.t 0), some (9, true)⟩,
    ⟨some 11, .mv (.t 1), some (9, true)⟩,
    ⟨some 12, .call 65 [(.t 10), (.t 11)], some (9, true)⟩,
    ⟨some 13, .pick (.t 9) (.t 12) (.b false), none⟩,
    ⟨some 14, .mv (.t 13), none⟩,
    ⟨some 15, .mv (.t 0), some (14, true)⟩,
    ⟨some 16, .mv (.t 2), some (14, true)⟩,
    ⟨some 17, .call 65 [(.t 15), (.t 16)], some (14, true)⟩,
    ⟨some 18, .pick (.t 14) (.t 17) (.b false), none⟩,
    ⟨some 19, .mv (.t 18), none⟩,
    ⟨some 20, .mv (.t 1), some (19, true)⟩,
    ⟨some 21, .mv (.t 2), some (19, true)⟩,
    ⟨some 22, .bin .neq (.t 20) (.t 21), some (19, true)⟩,
    ⟨some 23, .pick (.t 19) (.t 22) (.b false), none⟩,
    ⟨some 24, .mv (.t 23), none⟩,
    ⟨some 25, .mv (.t 0), some (24, true)⟩,
    ⟨some 26, .mv (.t 2), some (24, true)⟩,
    ⟨some 27, .call 66 [(.t 25), (.t 26)], some (24, true)⟩,
    ⟨some 28, .mv (.t 1), some (24, true)⟩,
    ⟨some 29, .ia .bool (.t 27) (.t 28), some (24, true)⟩,
    ⟨some 30, .ld false 1 (.t 29), some (24, true)⟩,
    ⟨some 31, .un .not (.t 30), some (24, true)⟩,
    ⟨some 32, .pick (.t 24) (.t 31) (.b false), none⟩,
    ⟨some 33, .mv (.t 32), none⟩,
    ⟨some 34, .mv (.t 0), some (33, true)⟩,
    ⟨some 35, .mv (.t 1), some (33, true)⟩,
    ⟨some 36, .call 66 [(.t 34), (.t 35)], some (33, true)⟩,
    ⟨some 37, .mv (.t 2), some (33, true)⟩,
    ⟨some 38, .ia .bool (.t 36) (.t 37), some (33, true)⟩,
    ⟨some 39, .ld false 1 (.t 38), some (33, true)⟩,
    ⟨some 40, .un .not (.t 39), some (33, true)⟩,
    ⟨some 41, .pick (.t 33) (.t 40) (.b false), none⟩,
    ⟨some 6, .mv (.t 41), none⟩])
  (.ret))⟩

set_option maxHeartbeats 4000000 in
theorem does25 (as : List AV) (hok : ok 64 as) : Does tb23 af25 conBeside as := by
  cases h : (conBeside).run as with
  | none => exact does_none h
  | some out =>
    have h' := h
    simp only [conBeside] at h'
    split at h'
    · rename_i l i j
      simp only [ok] at hok
      obtain ⟨⟨hlen, _⟩, _⟩ := hok
      have hLi : (0 ≤ i ∧ i ≤ l.length - 1) → (pastS l i).length = l.length := fun h => pastS_length h.1 (by omega)
      have hLr := rowsB_length l l.length
      have hLj : (0 ≤ j ∧ j ≤ l.length - 1) → (pastS l j).length = l.length := fun h => pastS_length h.1 (by omega)
      simp only [Option.some.injEq] at h'
      subst h'
      have hmo : (most : Int) = 1099511627776 := rfl
      have hml : (maxLen : Int) = 9223372036854775807 := rfl
      with_reducible refine does_by h fun Q hQ => ?_
      clear h
      dsimp only [af25, conBeside, go_sem, Nat.reduceAdd, Nat.reduceMul, Nat.reduceSub, Nat.reduceBEq, Nat.reduceLeDiff, Nat.reduceEqDiff, ↓dreduceIte, toG, tb23_54, tb23_65, tb23_66, conPast, conPlace, conRecsOk]
      repeat' first
        | with_reducible refine kon_seq ?_
        | with_reducible refine kon_nil ?_
        | with_reducible refine kon_skip ?_
        | with_reducible refine kon_block ?_
        | with_reducible refine kon_ret ?_
        | with_reducible refine kon_exit ?_
        | with_reducible refine kon_past_ret ?_
        | with_reducible refine kon_past_exit ?_
        | with_reducible refine kon_blk_ret ?_
        | with_reducible refine kon_blk_end ?_
        | with_reducible refine kon_blk_exit ?_
        | (with_reducible refine kon_blk_past ?_ ?_
           · decide)
        | with_reducible refine loop_exit ?_
        | with_reducible refine loop_ret ?_
        | with_reducible refine mid_exit ?_
        | with_reducible refine mid_ret ?_
        | (with_reducible refine kon_bin fun R hR => ?_
           dsimp only [go_sem, Nat.reduceAdd, Nat.reduceMul, Nat.reduceSub, Nat.reduceBEq, Nat.reduceLeDiff, Nat.reduceEqDiff, ↓dreduceIte, toG, tb23_54, tb23_65, tb23_66, conPast, conPlace, conRecsOk]
           try simp (disch := first | omega | (simp only [List.length_set, List.length_append, List.length_cons, List.length_nil, List.length_replicate]; omega)) only [guardP_T, guardP_pos, iteN, rd_set, List.set_set, List.length_set, eta_fact, eta_rumor, eta_doubt, eta_item, eta_rec, eta_due, look, look0, rd_toNat, wrap64, Int.toNat_natCast, Nat.zero_add, List.take_length, List.drop_zero, and_self, setB_len, true_and, and_true, recsOk_iff, isPl_iff, isPl_not, arePl_one, arePl_two, pasts_rd, pastS_length, rowsB_length]
           with_reducible refine hR _ ?_
           clear hR R)
        | (with_reducible refine kon_conv fun R hR => ?_
           dsimp only [go_sem, Nat.reduceAdd, Nat.reduceMul, Nat.reduceSub, Nat.reduceBEq, Nat.reduceLeDiff, Nat.reduceEqDiff, ↓dreduceIte, toG, tb23_54, tb23_65, tb23_66, conPast, conPlace, conRecsOk]
           try simp (disch := first | omega | (simp only [List.length_set, List.length_append, List.length_cons, List.length_nil, List.length_replicate]; omega)) only [guardP_T, guardP_pos, iteN, rd_set, List.set_set, List.length_set, eta_fact, eta_rumor, eta_doubt, eta_item, eta_rec, eta_due, look, look0, rd_toNat, wrap64, Int.toNat_natCast, Nat.zero_add, List.take_length, List.drop_zero, and_self, setB_len, true_and, and_true, recsOk_iff, isPl_iff, isPl_not, arePl_one, arePl_two, pasts_rd, pastS_length, rowsB_length]
           with_reducible refine hR _ ?_
           clear hR R)
        | (with_reducible refine kon_ins fun R hR => ?_
           dsimp only [go_sem, Nat.reduceAdd, Nat.reduceMul, Nat.reduceSub, Nat.reduceBEq, Nat.reduceLeDiff, Nat.reduceEqDiff, ↓dreduceIte, toG, tb23_54, tb23_65, tb23_66, conPast, conPlace, conRecsOk]
           first
             | with_reducible refine hR _ ?_
             | (simp (disch := first | omega | (simp only [List.length_set, List.length_append, List.length_cons, List.length_nil, List.length_replicate]; omega)) only [guardP_T, guardP_pos, iteN, rd_set, List.set_set, List.length_set, eta_fact, eta_rumor, eta_doubt, eta_item, eta_rec, eta_due, look, look0, rd_toNat, wrap64, Int.toNat_natCast, Nat.zero_add, List.take_length, List.drop_zero, and_self, setB_len, true_and, and_true, recsOk_iff, isPl_iff, isPl_not, arePl_one, arePl_two, pasts_rd, pastS_length, rowsB_length]
                try dsimp only [go_sem, Nat.reduceAdd, Nat.reduceMul, Nat.reduceSub, Nat.reduceBEq, Nat.reduceLeDiff, Nat.reduceEqDiff, ↓dreduceIte, toG, tb23_54, tb23_65, tb23_66, conPast, conPlace, conRecsOk]
                try simp (disch := first | omega | (simp only [List.length_set, List.length_append, List.length_cons, List.length_nil, List.length_replicate]; omega)) only [guardP_T, guardP_pos, iteN, rd_set, List.set_set, List.length_set, eta_fact, eta_rumor, eta_doubt, eta_item, eta_rec, eta_due, look, look0, rd_toNat, wrap64, Int.toNat_natCast, Nat.zero_add, List.take_length, List.drop_zero, and_self, setB_len, true_and, and_true, recsOk_iff, isPl_iff, isPl_not, arePl_one, arePl_two, pasts_rd, pastS_length, rowsB_length]
                with_reducible refine hR _ ?_)
           clear hR R)
        | (with_reducible refine kon_g_run ?_ ?_
           · dsimp only [nth] <;> with_reducible rfl)
        | (with_reducible refine kon_g_skip ?_ ?_
           · dsimp only [nth, not_t', not_f'] <;> with_reducible rfl
           dsimp only [go_sem])
        | (with_reducible refine kon_g_undef ?_ ?_
           · dsimp only [nth] <;> with_reducible rfl
           dsimp only [go_sem])
        | (with_reducible refine kon_g fun R hR => ?_
           dsimp only [go_sem, Nat.reduceAdd, Nat.reduceMul, Nat.reduceSub, Nat.reduceBEq, Nat.reduceLeDiff, Nat.reduceEqDiff, ↓dreduceIte, toG, tb23_54, tb23_65, tb23_66, conPast, conPlace, conRecsOk]
           split <;> (rename_i hb; with_reducible refine hR _ ?_; clear hR R; try simp only [hb]; try simp only [decide_eq_true_eq, decide_eq_false_iff_not, beq_iff_eq, beq_eq_false_iff_ne, bne_iff_ne, bne_eq_false_iff_eq, Bool.not_eq_true, Bool.not_eq_false, Bool.not_eq_eq_eq_not, Bool.not_true, Bool.not_false, ne_eq, Int.not_lt, Int.not_le, eq_self, not_true_eq_false, not_false_eq_true, decide_true, decide_false, Bool.and_eq_true, Bool.or_eq_true, Bool.and_eq_false_iff, Bool.or_eq_false_iff, gt_iff_lt, ge_iff_le, Bool.false_eq_true, Bool.true_eq_false, reduceCtorEq, or_false, false_or, or_true, true_or, false_and, and_false, recsOk_iff, isPl_iff, isPl_not, arePl_one, arePl_two, pasts_rd, pastS_length, rowsB_length] at hb; try (exfalso; omega)))
        | (with_reducible refine kon_cond fun R1 R2 h1 h2 => ?_
           dsimp only [go_sem]
           first
             | (with_reducible refine h1 ?_; clear h1 h2 R1 R2)
             | (with_reducible refine h2 ?_; clear h1 h2 R1 R2)
             | (split <;> rename_i hb <;> first
                 | (with_reducible refine h1 ?_; clear h1 h2 R1 R2; try simp only [hb]; try simp only [decide_eq_true_eq, decide_eq_false_iff_not, beq_iff_eq, beq_eq_false_iff_ne, bne_iff_ne, bne_eq_false_iff_eq, Bool.not_eq_true, Bool.not_eq_false, Bool.not_eq_eq_eq_not, Bool.not_true, Bool.not_false, ne_eq, Int.not_lt, Int.not_le, eq_self, not_true_eq_false, not_false_eq_true, decide_true, decide_false, Bool.and_eq_true, Bool.or_eq_true, Bool.and_eq_false_iff, Bool.or_eq_false_iff, gt_iff_lt, ge_iff_le, Bool.false_eq_true, Bool.true_eq_false, reduceCtorEq, or_false, false_or, or_true, true_or, false_and, and_false, recsOk_iff, isPl_iff, isPl_not, arePl_one, arePl_two, pasts_rd, pastS_length, rowsB_length] at hb; try (exfalso; omega))
                 | (with_reducible refine h2 ?_; clear h1 h2 R1 R2; try simp only [hb]; try simp only [decide_eq_true_eq, decide_eq_false_iff_not, beq_iff_eq, beq_eq_false_iff_ne, bne_iff_ne, bne_eq_false_iff_eq, Bool.not_eq_true, Bool.not_eq_false, Bool.not_eq_eq_eq_not, Bool.not_true, Bool.not_false, ne_eq, Int.not_lt, Int.not_le, eq_self, not_true_eq_false, not_false_eq_true, decide_true, decide_false, Bool.and_eq_true, Bool.or_eq_true, Bool.and_eq_false_iff, Bool.or_eq_false_iff, gt_iff_lt, ge_iff_le, Bool.false_eq_true, Bool.true_eq_false, reduceCtorEq, or_false, false_or, or_true, true_or, false_and, and_false, recsOk_iff, isPl_iff, isPl_not, arePl_one, arePl_two, pasts_rd, pastS_length, rowsB_length] at hb; try (exfalso; omega))))
      all_goals first
        | (dsimp only [kon]
           with_reducible refine hQ _ _ _ ?_
           dsimp only [kon, endQ, af25, conBeside, go_sem, Nat.reduceAdd, Nat.reduceMul, Nat.reduceSub, Nat.reduceBEq, Nat.reduceLeDiff, Nat.reduceEqDiff, ↓dreduceIte, toG, tb23_54, tb23_65, tb23_66, conPast, conPlace, conRecsOk]
           try simp (disch := first | omega | (simp only [List.length_set, List.length_append, List.length_cons, List.length_nil, List.length_replicate]; omega)) only [guardP_T, guardP_pos, iteN, rd_set, List.set_set, List.length_set, eta_fact, eta_rumor, eta_doubt, eta_item, eta_rec, eta_due, look, look0, rd_toNat, wrap64, Int.toNat_natCast, Nat.zero_add, List.take_length, List.drop_zero, and_self, setB_len, true_and, and_true]
           try dsimp only [go_sem, Nat.reduceAdd, Nat.reduceMul, Nat.reduceSub, Nat.reduceBEq, Nat.reduceLeDiff, Nat.reduceEqDiff, ↓dreduceIte, toG, tb23_54, tb23_65, tb23_66, conPast, conPlace, conRecsOk])
        | skip
      all_goals try first
        | omega
        | (simp; done)
        | (simp; omega)
      all_goals
        by_cases c1 : recsOk l = true
        · by_cases c2 : isPl l i = true
          · by_cases c3 : isPl l j = true
            · first
                | (simp_all [aheadB, besideB]; done)
                | (rw [isPl_iff] at c2 c3; exfalso; simp_all; done)
                | (rw [isPl_iff] at c2 c3; exfalso; simp_all; omega)
            · first
                | (simp [aheadB, besideB, c3]; done)
                | (rw [isPl_iff] at c3; exfalso; omega)
          · first
              | (simp [aheadB, besideB, c2]; done)
              | (rw [isPl_iff] at c2; exfalso; omega)
        · first
            | (simp [aheadB, besideB, c1]; done)
            | (rw [recsOk_iff] at c1; exfalso; simp_all; done)
    · simp at h'

-- loop.example/g00678/impl.PastOf hows []
def lp38_0 : AC := .seq (.reg [⟨some 21, .bin .lss (.t 20) (.t 19), none⟩])
      (.seq (.cond (.t 21)
        (.skip)
        (.exit 0))
      (.seq (.block 1 (.seq (.reg [⟨some 22, .mv (.t 20), none⟩,
          ⟨some 23, .ia .bool (.t 18) (.t 20), none⟩,
          ⟨some 24, .ld false 1 (.t 23), none⟩,
          ⟨some 6, .mv (.t 22), none⟩,
          ⟨some 7, .mv (.t 24), none⟩])
        (.seq (.reg [⟨some 25, .mv (.t 7), none⟩])
        (.cond (.t 25)
          (.reg [⟨some 26, .mv (.t 5), none⟩,
            ⟨some 27, .mv (.t 6), none⟩,
            ⟨some 28, .slit .int [(.t 27)], none⟩,
            ⟨some 29, .app .int (.t 26) (.t 28), none⟩,
            ⟨some 5, .mv (.t 29), none⟩])
          (.skip)))))
      (.reg [⟨some 30, .bin .add (.t 20) (.i 1), none⟩,
        ⟨some 20, .mv (.t 30), none⟩])))
def af38 : AF := ⟨32, [.t 4],
  .seq (.reg [⟨some 4, .mv (.c (.nil)), none⟩])
  (.seq (.seq (.reg [⟨some 8, .mv (.t 0), none⟩,
    ⟨some 9, .mv (.t 1), none⟩,
    ⟨some 10, .slit .int [(.t 9)], none⟩,
    ⟨some 11, .call 67 [(.t 8), (.t 10)], none⟩,
    ⟨some 12, .un .not (.t 11), none⟩])
  (.cond (.t 12)
    (.seq (.reg [⟨some 4, .mv (.c (.nil)), none⟩])
    (.ret))
    (.skip)))
  (.seq (.reg [⟨some 13, .slit .int [], none⟩,
    ⟨some 5, .mv (.t 13), none⟩])
  (.seq (.seq (.reg [⟨some 14, .mv (.t 0), none⟩,
    ⟨some 15, .call 68 [(.t 14)], none⟩,
    ⟨some 16, .mv (.t 1), none⟩,
    ⟨some 17, .ia .bools (.t 15) (.t 16), none⟩,
    ⟨some 18, .ld false 1 (.t 17), none⟩,
    ⟨some 19, .len (.t 18), none⟩,
    ⟨some 20, .mv (.i 0), none⟩])
  (.block 0 (.loop lp38_0)))
  (.seq (.reg [⟨some 31, .mv (.t 5), none⟩,
    ⟨some 4, .mv (.t 31), none⟩])
  (.ret)))))⟩

set_option maxHeartbeats 4000000 in
theorem does38 (as : List AV) (hok : ok 64 as) : Does tb24 af38 conPastOf as := by
  cases h : (conPastOf).run as with
  | none => exact does_none h
  | some out =>
    have h' := h
    simp only [conPastOf] at h'
    split at h'
    · rename_i l i
      simp only [ok] at hok
      obtain ⟨⟨hlen, _⟩, _⟩ := hok
      have hLi : (0 ≤ i ∧ i ≤ l.length - 1) → (pastS l i).length = l.length := fun h => pastS_length h.1 (by omega)
      have hLr := rowsB_length l l.length
      simp only [Option.some.injEq] at h'
      subst h'
      have hmo : (most : Int) = 1099511627776 := rfl
      have hml : (maxLen : Int) = 9223372036854775807 := rfl
      with_reducible refine does_by h fun Q hQ => ?_
      clear h
      dsimp only [af38, conPastOf, go_sem, Nat.reduceAdd, Nat.reduceMul, Nat.reduceSub, Nat.reduceBEq, Nat.reduceLeDiff, Nat.reduceEqDiff, ↓dreduceIte, toG, tb24_67, tb24_68, conArePl, conPasts]
      repeat' first
        | with_reducible refine kon_seq ?_
        | with_reducible refine kon_nil ?_
        | with_reducible refine kon_skip ?_
        | with_reducible refine kon_block ?_
        | with_reducible refine kon_ret ?_
        | with_reducible refine kon_exit ?_
        | with_reducible refine kon_past_ret ?_
        | with_reducible refine kon_past_exit ?_
        | with_reducible refine kon_blk_ret ?_
        | with_reducible refine kon_blk_end ?_
        | with_reducible refine kon_blk_exit ?_
        | (with_reducible refine kon_blk_past ?_ ?_
           · decide)
        | with_reducible refine loop_exit ?_
        | with_reducible refine loop_ret ?_
        | with_reducible refine mid_exit ?_
        | with_reducible refine mid_ret ?_
        | (with_reducible refine kon_bin fun R hR => ?_
           dsimp only [go_sem, Nat.reduceAdd, Nat.reduceMul, Nat.reduceSub, Nat.reduceBEq, Nat.reduceLeDiff, Nat.reduceEqDiff, ↓dreduceIte, toG, tb24_67, tb24_68, conArePl, conPasts]
           try simp (disch := first | omega | (simp only [List.length_set, List.length_append, List.length_cons, List.length_nil, List.length_replicate]; omega)) only [guardP_T, guardP_pos, iteN, rd_set, List.set_set, List.length_set, eta_fact, eta_rumor, eta_doubt, eta_item, eta_rec, eta_due, look, look0, rd_toNat, wrap64, Int.toNat_natCast, Nat.zero_add, List.take_length, List.drop_zero, and_self, setB_len, true_and, and_true, recsOk_iff, isPl_iff, isPl_not, arePl_one, arePl_two, pasts_rd, rowsB_length]
           with_reducible refine hR _ ?_
           clear hR R)
        | (with_reducible refine kon_conv fun R hR => ?_
           dsimp only [go_sem, Nat.reduceAdd, Nat.reduceMul, Nat.reduceSub, Nat.reduceBEq, Nat.reduceLeDiff, Nat.reduceEqDiff, ↓dreduceIte, toG, tb24_67, tb24_68, conArePl, conPasts]
           try simp (disch := first | omega | (simp only [List.length_set, List.length_append, List.length_cons, List.length_nil, List.length_replicate]; omega)) only [guardP_T, guardP_pos, iteN, rd_set, List.set_set, List.length_set, eta_fact, eta_rumor, eta_doubt, eta_item, eta_rec, eta_due, look, look0, rd_toNat, wrap64, Int.toNat_natCast, Nat.zero_add, List.take_length, List.drop_zero, and_self, setB_len, true_and, and_true, recsOk_iff, isPl_iff, isPl_not, arePl_one, arePl_two, pasts_rd, rowsB_length]
           with_reducible refine hR _ ?_
           clear hR R)
        | (with_reducible refine kon_ins fun R hR => ?_
           dsimp only [go_sem, Nat.reduceAdd, Nat.reduceMul, Nat.reduceSub, Nat.reduceBEq, Nat.reduceLeDiff, Nat.reduceEqDiff, ↓dreduceIte, toG, tb24_67, tb24_68, conArePl, conPasts]
           first
             | with_reducible refine hR _ ?_
             | (simp (disch := first | omega | (simp only [List.length_set, List.length_append, List.length_cons, List.length_nil, List.length_replicate]; omega)) only [guardP_T, guardP_pos, iteN, rd_set, List.set_set, List.length_set, eta_fact, eta_rumor, eta_doubt, eta_item, eta_rec, eta_due, look, look0, rd_toNat, wrap64, Int.toNat_natCast, Nat.zero_add, List.take_length, List.drop_zero, and_self, setB_len, true_and, and_true, recsOk_iff, isPl_iff, isPl_not, arePl_one, arePl_two, pasts_rd, rowsB_length]
                try dsimp only [go_sem, Nat.reduceAdd, Nat.reduceMul, Nat.reduceSub, Nat.reduceBEq, Nat.reduceLeDiff, Nat.reduceEqDiff, ↓dreduceIte, toG, tb24_67, tb24_68, conArePl, conPasts]
                try simp (disch := first | omega | (simp only [List.length_set, List.length_append, List.length_cons, List.length_nil, List.length_replicate]; omega)) only [guardP_T, guardP_pos, iteN, rd_set, List.set_set, List.length_set, eta_fact, eta_rumor, eta_doubt, eta_item, eta_rec, eta_due, look, look0, rd_toNat, wrap64, Int.toNat_natCast, Nat.zero_add, List.take_length, List.drop_zero, and_self, setB_len, true_and, and_true, recsOk_iff, isPl_iff, isPl_not, arePl_one, arePl_two, pasts_rd, rowsB_length]
                with_reducible refine hR _ ?_)
           clear hR R)
        | (with_reducible refine kon_g_run ?_ ?_
           · dsimp only [nth] <;> with_reducible rfl)
        | (with_reducible refine kon_g_skip ?_ ?_
           · dsimp only [nth, not_t', not_f'] <;> with_reducible rfl
           dsimp only [go_sem])
        | (with_reducible refine kon_g_undef ?_ ?_
           · dsimp only [nth] <;> with_reducible rfl
           dsimp only [go_sem])
        | (with_reducible refine kon_g fun R hR => ?_
           dsimp only [go_sem, Nat.reduceAdd, Nat.reduceMul, Nat.reduceSub, Nat.reduceBEq, Nat.reduceLeDiff, Nat.reduceEqDiff, ↓dreduceIte, toG, tb24_67, tb24_68, conArePl, conPasts]
           split <;> (rename_i hb; with_reducible refine hR _ ?_; clear hR R; try simp only [hb]; try simp only [decide_eq_true_eq, decide_eq_false_iff_not, beq_iff_eq, beq_eq_false_iff_ne, bne_iff_ne, bne_eq_false_iff_eq, Bool.not_eq_true, Bool.not_eq_false, Bool.not_eq_eq_eq_not, Bool.not_true, Bool.not_false, ne_eq, Int.not_lt, Int.not_le, eq_self, not_true_eq_false, not_false_eq_true, decide_true, decide_false, Bool.and_eq_true, Bool.or_eq_true, Bool.and_eq_false_iff, Bool.or_eq_false_iff, gt_iff_lt, ge_iff_le, Bool.false_eq_true, Bool.true_eq_false, reduceCtorEq, or_false, false_or, or_true, true_or, false_and, and_false, recsOk_iff, isPl_iff, isPl_not, arePl_one, arePl_two, pasts_rd, rowsB_length] at hb; try (exfalso; omega)))
        | (with_reducible refine kon_cond fun R1 R2 h1 h2 => ?_
           dsimp only [go_sem]
           first
             | (with_reducible refine h1 ?_; clear h1 h2 R1 R2)
             | (with_reducible refine h2 ?_; clear h1 h2 R1 R2)
             | (split <;> rename_i hb <;> first
                 | (with_reducible refine h1 ?_; clear h1 h2 R1 R2; try simp only [hb]; try simp only [decide_eq_true_eq, decide_eq_false_iff_not, beq_iff_eq, beq_eq_false_iff_ne, bne_iff_ne, bne_eq_false_iff_eq, Bool.not_eq_true, Bool.not_eq_false, Bool.not_eq_eq_eq_not, Bool.not_true, Bool.not_false, ne_eq, Int.not_lt, Int.not_le, eq_self, not_true_eq_false, not_false_eq_true, decide_true, decide_false, Bool.and_eq_true, Bool.or_eq_true, Bool.and_eq_false_iff, Bool.or_eq_false_iff, gt_iff_lt, ge_iff_le, Bool.false_eq_true, Bool.true_eq_false, reduceCtorEq, or_false, false_or, or_true, true_or, false_and, and_false, recsOk_iff, isPl_iff, isPl_not, arePl_one, arePl_two, pasts_rd, rowsB_length] at hb; try (exfalso; omega))
                 | (with_reducible refine h2 ?_; clear h1 h2 R1 R2; try simp only [hb]; try simp only [decide_eq_true_eq, decide_eq_false_iff_not, beq_iff_eq, beq_eq_false_iff_ne, bne_iff_ne, bne_eq_false_iff_eq, Bool.not_eq_true, Bool.not_eq_false, Bool.not_eq_eq_eq_not, Bool.not_true, Bool.not_false, ne_eq, Int.not_lt, Int.not_le, eq_self, not_true_eq_false, not_false_eq_true, decide_true, decide_false, Bool.and_eq_true, Bool.or_eq_true, Bool.and_eq_false_iff, Bool.or_eq_false_iff, gt_iff_lt, ge_iff_le, Bool.false_eq_true, Bool.true_eq_false, reduceCtorEq, or_false, false_or, or_true, true_or, false_and, and_false, recsOk_iff, isPl_iff, isPl_not, arePl_one, arePl_two, pasts_rd, rowsB_length] at hb; try (exfalso; omega))))
        | (with_reducible refine kon_rounds (a := lp38_0) [5, 18, 19, 20] (fun n9 s9 => ∃ (k : Int) (o : List Int), ((0 ≤ k) ∧ (k ≤ l.length) ∧ (o.length ≤ k) ∧ (idx (pastS l i) 0 = o ++ idx ((pastS l i).drop k.toNat) k) ∧ ((l.all recOk = true ∧ l.length ≤ 400) ∧ 0 ≤ i ∧ i ≤ l.length - 1) ∧ ((pastS l i).length = l.length)) ∧ n9 = (l.length - k).toNat ∧ s9.m = [.row 0 .int o] ∧ s9.t = [nth s9.t 0, nth s9.t 1, nth s9.t 2, nth s9.t 3, nth s9.t 4, .ms 0 0 0 o.length, nth s9.t 6, nth s9.t 7, nth s9.t 8, nth s9.t 9, nth s9.t 10, nth s9.t 11, nth s9.t 12, nth s9.t 13, nth s9.t 14, nth s9.t 15, nth s9.t 16, nth s9.t 17, .sl .bool (pastS l i), .int .i64 (pastS l i).length, .int .i64 k, nth s9.t 21, nth s9.t 22, nth s9.t 23, nth s9.t 24, nth s9.t 25, nth s9.t 26, nth s9.t 27, nth s9.t 28, nth s9.t 29, nth s9.t 30, nth s9.t 31]) ?_ ?_
           all_goals first
             | (rintro n9 ⟨t9, m9⟩ ⟨k, o, ⟨hI0, hI1, hI2, hI3, hI4, hI5⟩, rfl, hm9, ht9⟩
                dsimp only at hm9 ht9
                subst hm9
                rw [ht9]
                clear ht9
                dsimp only [lp38_0])
             | (dsimp only [go_sem, Nat.reduceAdd, Nat.reduceMul, Nat.reduceSub, Nat.reduceBEq, Nat.reduceLeDiff, Nat.reduceEqDiff, ↓dreduceIte, toG, tb24_67, tb24_68, conArePl, conPasts]
                refine ⟨_, _, _, ⟨?_, ?_, ?_, ?_, ?_, ?_⟩, rfl, rfl, rfl⟩))
        | (with_reducible refine loop_again (keep := [5, 18, 19, 20]) ?_
           dsimp only [go_sem, Nat.reduceAdd, Nat.reduceMul, Nat.reduceSub, Nat.reduceBEq, Nat.reduceLeDiff, Nat.reduceEqDiff, ↓dreduceIte, toG, tb24_67, tb24_68, conArePl, conPasts]
           refine ⟨_, ?_, _, _, ⟨?_, ?_, ?_, ?_, ?_, ?_⟩, rfl, rfl, rfl⟩)
      all_goals first
        | (dsimp only [kon]
           with_reducible refine hQ _ _ _ ?_
           dsimp only [kon, endQ, af38, conPastOf, go_sem, Nat.reduceAdd, Nat.reduceMul, Nat.reduceSub, Nat.reduceBEq, Nat.reduceLeDiff, Nat.reduceEqDiff, ↓dreduceIte, toG, tb24_67, tb24_68, conArePl, conPasts]
           try simp (disch := first | omega | (simp only [List.length_set, List.length_append, List.length_cons, List.length_nil, List.length_replicate]; omega)) only [guardP_T, guardP_pos, iteN, rd_set, List.set_set, List.length_set, eta_fact, eta_rumor, eta_doubt, eta_item, eta_rec, eta_due, look, look0, rd_toNat, wrap64, Int.toNat_natCast, Nat.zero_add, List.take_length, List.drop_zero, and_self, setB_len, true_and, and_true]
           try dsimp only [go_sem, Nat.reduceAdd, Nat.reduceMul, Nat.reduceSub, Nat.reduceBEq, Nat.reduceLeDiff, Nat.reduceEqDiff, ↓dreduceIte, toG, tb24_67, tb24_68, conArePl, conPasts])
        | skip
      all_goals try first
        | omega
        | (simp; done)
        | (simp; omega)
      all_goals first
        | omega
        | (simp; done)
        | (simp [idx]; done)
        | (constructor <;> assumption)
        | (rw [hI3, idx_yes (by omega) (by omega) (by assumption)]; simp; done)
        | (rw [hI3, idx_no (by omega) (by omega) (by assumption)]; done)
        | (rw [pastL, if_pos ⟨by rw [recsOk_iff]; exact hI4.1, by rw [isPl_iff]; exact hI4.2⟩, hI3, drop_all (by omega), idx, List.append_nil]; done)
        | (rw [pastL, if_neg (fun hn => by
             obtain ⟨h1, h2⟩ := hn
             rw [isPl_iff] at h2
             first
               | omega
               | (simp_all; done)
               | (simp_all; omega))]
           done)
    · simp at h'

-- loop.example/g00678/spec.PastOf hows []
def lp37_0 : AC := .seq (.seq (.reg [⟨some 22, .mv (.t 7), none⟩,
        ⟨some 23, .mv (.t 6), none⟩,
        ⟨some 24, .len (.t 23), none⟩,
        ⟨some 25, .bin .lss (.t 22) (.t 24), none⟩])
      (.cond (.t 25)
        (.skip)
        (.exit 0)))
      (.seq (.block 1 (.seq (.reg [⟨some 28, .mv (.t 6), none⟩,
          ⟨some 29, .mv (.t 7), none⟩,
          ⟨some 30, .ia .bool (.t 28) (.t 29), none⟩,
          ⟨some 31, .ld false 1 (.t 30), none⟩])
        (.cond (.t 31)
          (.reg [⟨some 32, .mv (.t 5), none⟩,
            ⟨some 33, .mv (.t 7), none⟩,
            ⟨some 34, .slit .int [(.t 33)], none⟩,
            ⟨some 35, .app .int (.t 32) (.t 34), none⟩,
            ⟨some 5, .mv (.t 35), none⟩])
          (.skip))))
      (.reg [⟨some 26, .mv (.t 7), none⟩,
        ⟨some 27, .bin .add (.t 26) (.i 1), none⟩,
        ⟨some 7, .mv (.t 27), none⟩]))
def af37 : AF := ⟨37, [.t 4],
  .seq (.reg [⟨some 4, .mv (.c (.nil)), none⟩])
  (.seq (.reg [⟨some 8, .slit .int [], none⟩,
    ⟨some 5, .mv (.t 8), none⟩])
  (.seq (.seq (.reg [⟨some 9, .mv (.t 0), none⟩,
    ⟨some 10, .call 54 [(.t 9)], none⟩,
    ⟨some 11, .un .not (.t 10), none⟩,
    ⟨some 12, .mv (.t 11), none⟩,
    ⟨some 13, .mv (.t 0), some (12, false)⟩,
    ⟨some 14, .mv (.t 1), some (12, false)⟩,
    ⟨some 15, .call 65 [(.t 13), (.t 14)], some (12, false)⟩,
    ⟨some 16, .un .not (.t 15), some (12, false)⟩,
    ⟨some 17, .pick (.t 12) (.b true) (.t 16), none⟩])
  (.cond (.t 17)
    (.seq (.reg [⟨some 18, .mv (.t 5), none⟩,
      ⟨some 4, .mv (.t 18), none⟩])
    (.ret))
    (.skip)))
  (.seq (.reg [⟨some 19, .mv (.t 0), none⟩,
    ⟨some 20, .mv (.t 1), none⟩,
    ⟨some 21, .call 66 [(.t 19), (.t 20)], none⟩,
    ⟨some 6, .mv (.t 21), none⟩])
  (.seq (.seq (.reg [⟨some 7, .mv (.i 0), none⟩])
  (.block 0 (.loop lp37_0)))
  (.seq (.reg [⟨some 36, .mv (.t 5), none⟩,
    ⟨some 4, .mv (.t 36), none⟩])
  (.ret))))))⟩

set_option maxHeartbeats 4000000 in
theorem does37 (as : List AV) (hok : ok 64 as) : Does tb23 af37 conPastOf as := by
  cases h : (conPastOf).run as with
  | none => exact does_none h
  | some out =>
    have h' := h
    simp only [conPastOf] at h'
    split at h'
    · rename_i l i
      simp only [ok] at hok
      obtain ⟨⟨hlen, _⟩, _⟩ := hok
      have hLi : (0 ≤ i ∧ i ≤ l.length - 1) → (pastS l i).length = l.length := fun h => pastS_length h.1 (by omega)
      have hLr := rowsB_length l l.length
      simp only [Option.some.injEq] at h'
      subst h'
      have hmo : (most : Int) = 1099511627776 := rfl
      have hml : (maxLen : Int) = 9223372036854775807 := rfl
      with_reducible refine does_by h fun Q hQ => ?_
      clear h
      dsimp only [af37, conPastOf, go_sem, Nat.reduceAdd, Nat.reduceMul, Nat.reduceSub, Nat.reduceBEq, Nat.reduceLeDiff, Nat.reduceEqDiff, ↓dreduceIte, toG, tb23_54, tb23_65, tb23_66, conPast, conPlace, conRecsOk]
      repeat' first
        | with_reducible refine kon_seq ?_
        | with_reducible refine kon_nil ?_
        | with_reducible refine kon_skip ?_
        | with_reducible refine kon_block ?_
        | with_reducible refine kon_ret ?_
        | with_reducible refine kon_exit ?_
        | with_reducible refine kon_past_ret ?_
        | with_reducible refine kon_past_exit ?_
        | with_reducible refine kon_blk_ret ?_
        | with_reducible refine kon_blk_end ?_
        | with_reducible refine kon_blk_exit ?_
        | (with_reducible refine kon_blk_past ?_ ?_
           · decide)
        | with_reducible refine loop_exit ?_
        | with_reducible refine loop_ret ?_
        | with_reducible refine mid_exit ?_
        | with_reducible refine mid_ret ?_
        | (with_reducible refine kon_bin fun R hR => ?_
           dsimp only [go_sem, Nat.reduceAdd, Nat.reduceMul, Nat.reduceSub, Nat.reduceBEq, Nat.reduceLeDiff, Nat.reduceEqDiff, ↓dreduceIte, toG, tb23_54, tb23_65, tb23_66, conPast, conPlace, conRecsOk]
           try simp (disch := first | omega | (simp only [List.length_set, List.length_append, List.length_cons, List.length_nil, List.length_replicate]; omega)) only [guardP_T, guardP_pos, iteN, rd_set, List.set_set, List.length_set, eta_fact, eta_rumor, eta_doubt, eta_item, eta_rec, eta_due, look, look0, rd_toNat, wrap64, Int.toNat_natCast, Nat.zero_add, List.take_length, List.drop_zero, and_self, setB_len, true_and, and_true, recsOk_iff, isPl_iff, isPl_not, arePl_one, arePl_two, pasts_rd, pastS_length, rowsB_length]
           with_reducible refine hR _ ?_
           clear hR R)
        | (with_reducible refine kon_conv fun R hR => ?_
           dsimp only [go_sem, Nat.reduceAdd, Nat.reduceMul, Nat.reduceSub, Nat.reduceBEq, Nat.reduceLeDiff, Nat.reduceEqDiff, ↓dreduceIte, toG, tb23_54, tb23_65, tb23_66, conPast, conPlace, conRecsOk]
           try simp (disch := first | omega | (simp only [List.length_set, List.length_append, List.length_cons, List.length_nil, List.length_replicate]; omega)) only [guardP_T, guardP_pos, iteN, rd_set, List.set_set, List.length_set, eta_fact, eta_rumor, eta_doubt, eta_item, eta_rec, eta_due, look, look0, rd_toNat, wrap64, Int.toNat_natCast, Nat.zero_add, List.take_length, List.drop_zero, and_self, setB_len, true_and, and_true, recsOk_iff, isPl_iff, isPl_not, arePl_one, arePl_two, pasts_rd, pastS_length, rowsB_length]
           with_reducible refine hR _ ?_
           clear hR R)
        | (with_reducible refine kon_ins fun R hR => ?_
           dsimp only [go_sem, Nat.reduceAdd, Nat.reduceMul, Nat.reduceSub, Nat.reduceBEq, Nat.reduceLeDiff, Nat.reduceEqDiff, ↓dreduceIte, toG, tb23_54, tb23_65, tb23_66, conPast, conPlace, conRecsOk]
           first
             | with_reducible refine hR _ ?_
             | (simp (disch := first | omega | (simp only [List.length_set, List.length_append, List.length_cons, List.length_nil, List.length_replicate]; omega)) only [guardP_T, guardP_pos, iteN, rd_set, List.set_set, List.length_set, eta_fact, eta_rumor, eta_doubt, eta_item, eta_rec, eta_due, look, look0, rd_toNat, wrap64, Int.toNat_natCast, Nat.zero_add, List.take_length, List.drop_zero, and_self, setB_len, true_and, and_true, recsOk_iff, isPl_iff, isPl_not, arePl_one, arePl_two, pasts_rd, pastS_length, rowsB_length]
                try dsimp only [go_sem, Nat.reduceAdd, Nat.reduceMul, Nat.reduceSub, Nat.reduceBEq, Nat.reduceLeDiff, Nat.reduceEqDiff, ↓dreduceIte, toG, tb23_54, tb23_65, tb23_66, conPast, conPlace, conRecsOk]
                try simp (disch := first | omega | (simp only [List.length_set, List.length_append, List.length_cons, List.length_nil, List.length_replicate]; omega)) only [guardP_T, guardP_pos, iteN, rd_set, List.set_set, List.length_set, eta_fact, eta_rumor, eta_doubt, eta_item, eta_rec, eta_due, look, look0, rd_toNat, wrap64, Int.toNat_natCast, Nat.zero_add, List.take_length, List.drop_zero, and_self, setB_len, true_and, and_true, recsOk_iff, isPl_iff, isPl_not, arePl_one, arePl_two, pasts_rd, pastS_length, rowsB_length]
                with_reducible refine hR _ ?_)
           clear hR R)
        | (with_reducible refine kon_g_run ?_ ?_
           · dsimp only [nth] <;> with_reducible rfl)
        | (with_reducible refine kon_g_skip ?_ ?_
           · dsimp only [nth, not_t', not_f'] <;> with_reducible rfl
           dsimp only [go_sem])
        | (with_reducible refine kon_g_undef ?_ ?_
           · dsimp only [nth] <;> with_reducible rfl
           dsimp only [go_sem])
        | (with_reducible refine kon_g fun R hR => ?_
           dsimp only [go_sem, Nat.reduceAdd, Nat.reduceMul, Nat.reduceSub, Nat.reduceBEq, Nat.reduceLeDiff, Nat.reduceEqDiff, ↓dreduceIte, toG, tb23_54, tb23_65, tb23_66, conPast, conPlace, conRecsOk]
           split <;> (rename_i hb; with_reducible refine hR _ ?_; clear hR R; try simp only [hb]; try simp only [decide_eq_true_eq, decide_eq_false_iff_not, beq_iff_eq, beq_eq_false_iff_ne, bne_iff_ne, bne_eq_false_iff_eq, Bool.not_eq_true, Bool.not_eq_false, Bool.not_eq_eq_eq_not, Bool.not_true, Bool.not_false, ne_eq, Int.not_lt, Int.not_le, eq_self, not_true_eq_false, not_false_eq_true, decide_true, decide_false, Bool.and_eq_true, Bool.or_eq_true, Bool.and_eq_false_iff, Bool.or_eq_false_iff, gt_iff_lt, ge_iff_le, Bool.false_eq_true, Bool.true_eq_false, reduceCtorEq, or_false, false_or, or_true, true_or, false_and, and_false, recsOk_iff, isPl_iff, isPl_not, arePl_one, arePl_two, pasts_rd, pastS_length, rowsB_length] at hb; try (exfalso; omega)))
        | (with_reducible refine kon_cond fun R1 R2 h1 h2 => ?_
           dsimp only [go_sem]
           first
             | (with_reducible refine h1 ?_; clear h1 h2 R1 R2)
             | (with_reducible refine h2 ?_; clear h1 h2 R1 R2)
             | (split <;> rename_i hb <;> first
                 | (with_reducible refine h1 ?_; clear h1 h2 R1 R2; try simp only [hb]; try simp only [decide_eq_true_eq, decide_eq_false_iff_not, beq_iff_eq, beq_eq_false_iff_ne, bne_iff_ne, bne_eq_false_iff_eq, Bool.not_eq_true, Bool.not_eq_false, Bool.not_eq_eq_eq_not, Bool.not_true, Bool.not_false, ne_eq, Int.not_lt, Int.not_le, eq_self, not_true_eq_false, not_false_eq_true, decide_true, decide_false, Bool.and_eq_true, Bool.or_eq_true, Bool.and_eq_false_iff, Bool.or_eq_false_iff, gt_iff_lt, ge_iff_le, Bool.false_eq_true, Bool.true_eq_false, reduceCtorEq, or_false, false_or, or_true, true_or, false_and, and_false, recsOk_iff, isPl_iff, isPl_not, arePl_one, arePl_two, pasts_rd, pastS_length, rowsB_length] at hb; try (exfalso; omega))
                 | (with_reducible refine h2 ?_; clear h1 h2 R1 R2; try simp only [hb]; try simp only [decide_eq_true_eq, decide_eq_false_iff_not, beq_iff_eq, beq_eq_false_iff_ne, bne_iff_ne, bne_eq_false_iff_eq, Bool.not_eq_true, Bool.not_eq_false, Bool.not_eq_eq_eq_not, Bool.not_true, Bool.not_false, ne_eq, Int.not_lt, Int.not_le, eq_self, not_true_eq_false, not_false_eq_true, decide_true, decide_false, Bool.and_eq_true, Bool.or_eq_true, Bool.and_eq_false_iff, Bool.or_eq_false_iff, gt_iff_lt, ge_iff_le, Bool.false_eq_true, Bool.true_eq_false, reduceCtorEq, or_false, false_or, or_true, true_or, false_and, and_false, recsOk_iff, isPl_iff, isPl_not, arePl_one, arePl_two, pasts_rd, pastS_length, rowsB_length] at hb; try (exfalso; omega))))
        | (with_reducible refine kon_rounds (a := lp37_0) [5, 6, 7] (fun n9 s9 => ∃ (k : Int) (o : List Int), ((0 ≤ k) ∧ (k ≤ l.length) ∧ (o.length ≤ k) ∧ (idx (pastS l i) 0 = o ++ idx ((pastS l i).drop k.toNat) k) ∧ ((l.all recOk = true ∧ l.length ≤ 400) ∧ 0 ≤ i ∧ i ≤ l.length - 1) ∧ ((pastS l i).length = l.length)) ∧ n9 = (l.length - k).toNat ∧ s9.m = [.row 0 .int o, .row 0 .bool (pastS l i)] ∧ s9.t = [nth s9.t 0, nth s9.t 1, nth s9.t 2, nth s9.t 3, nth s9.t 4, .ms 0 0 0 o.length, .ms 1 0 0 l.length, .int .i64 k, nth s9.t 8, nth s9.t 9, nth s9.t 10, nth s9.t 11, nth s9.t 12, nth s9.t 13, nth s9.t 14, nth s9.t 15, nth s9.t 16, nth s9.t 17, nth s9.t 18, nth s9.t 19, nth s9.t 20, nth s9.t 21, nth s9.t 22, nth s9.t 23, nth s9.t 24, nth s9.t 25, nth s9.t 26, nth s9.t 27, nth s9.t 28, nth s9.t 29, nth s9.t 30, nth s9.t 31, nth s9.t 32, nth s9.t 33, nth s9.t 34, nth s9.t 35, nth s9.t 36]) ?_ ?_
           all_goals first
             | (rintro n9 ⟨t9, m9⟩ ⟨k, o, ⟨hI0, hI1, hI2, hI3, hI4, hI5⟩, rfl, hm9, ht9⟩
                dsimp only at hm9 ht9
                subst hm9
                rw [ht9]
                clear ht9
                dsimp only [lp37_0])
             | (dsimp only [go_sem, Nat.reduceAdd, Nat.reduceMul, Nat.reduceSub, Nat.reduceBEq, Nat.reduceLeDiff, Nat.reduceEqDiff, ↓dreduceIte, toG, tb23_54, tb23_65, tb23_66, conPast, conPlace, conRecsOk]
                refine ⟨_, _, _, ⟨?_, ?_, ?_, ?_, ?_, ?_⟩, rfl, rfl, rfl⟩))
        | (with_reducible refine loop_again (keep := [5, 6, 7]) ?_
           dsimp only [go_sem, Nat.reduceAdd, Nat.reduceMul, Nat.reduceSub, Nat.reduceBEq, Nat.reduceLeDiff, Nat.reduceEqDiff, ↓dreduceIte, toG, tb23_54, tb23_65, tb23_66, conPast, conPlace, conRecsOk]
           refine ⟨_, ?_, _, _, ⟨?_, ?_, ?_, ?_, ?_, ?_⟩, rfl, rfl, rfl⟩)
      all_goals first
        | (dsimp only [kon]
           with_reducible refine hQ _ _ _ ?_
           dsimp only [kon, endQ, af37, conPastOf, go_sem, Nat.reduceAdd, Nat.reduceMul, Nat.reduceSub, Nat.reduceBEq, Nat.reduceLeDiff, Nat.reduceEqDiff, ↓dreduceIte, toG, tb23_54, tb23_65, tb23_66, conPast, conPlace, conRecsOk]
           try simp (disch := first | omega | (simp only [List.length_set, List.length_append, List.length_cons, List.length_nil, List.length_replicate]; omega)) only [guardP_T, guardP_pos, iteN, rd_set, List.set_set, List.length_set, eta_fact, eta_rumor, eta_doubt, eta_item, eta_rec, eta_due, look, look0, rd_toNat, wrap64, Int.toNat_natCast, Nat.zero_add, List.take_length, List.drop_zero, and_self, setB_len, true_and, and_true]
           try dsimp only [go_sem, Nat.reduceAdd, Nat.reduceMul, Nat.reduceSub, Nat.reduceBEq, Nat.reduceLeDiff, Nat.reduceEqDiff, ↓dreduceIte, toG, tb23_54, tb23_65, tb23_66, conPast, conPlace, conRecsOk])
        | skip
      all_goals try first
        | omega
        | (simp; done)
        | (simp; omega)
      all_goals first
        | omega
        | (simp; done)
        | (simp [idx]; done)
        | (constructor <;> assumption)
        | (rw [hI3, idx_yes (by omega) (by omega) (by assumption)]; simp; done)
        | (rw [hI3, idx_no (by omega) (by omega) (by assumption)]; done)
        | (rw [pastL, if_pos ⟨by rw [recsOk_iff]; exact hI4.1, by rw [isPl_iff]; exact hI4.2⟩, hI3, drop_all (by omega), idx, List.append_nil]; done)
        | (rw [pastL, if_neg (fun hn => by
             obtain ⟨h1, h2⟩ := hn
             rw [isPl_iff] at h2
             first
               | omega
               | (simp_all; done)
               | (simp_all; omega))]
           done)
    · simp at h'

end Go.Proofs.Ytpinkajnaeacdaa
