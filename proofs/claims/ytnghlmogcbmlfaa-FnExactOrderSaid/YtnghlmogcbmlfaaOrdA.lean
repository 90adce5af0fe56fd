/- The order of places: the specification. -/
import Derived.Test.YtnghlmogcbmlfaaPastA
namespace Go.Proofs.Ytnghlmogcbmlfaa
set_option linter.unusedVariables false
set_option linter.unusedSimpArgs false
set_option linter.unnecessarySimpa false

/-- The first place from one on that is not told, of a node; -1 without one. -/
def fU (l : List Rec) (w : List Bool) (m : Int) : Nat → Int → Int
  | 0, _ => -1
  | n + 1, i => if rd w i = false ∧ (rd l i).node = m then i else fU l w m n (i + 1)

def firstU (l : List Rec) (w : List Bool) (m : Int) : Int := fU l w m l.length 0

theorem fU_step {l : List Rec} {w : List Bool} {m i : Int} (h : i < l.length) : fU l w m (l.length - i).toNat i = if rd w i = false ∧ (rd l i).node = m then i else fU l w m (l.length - (i + 1)).toNat (i + 1) := by
  rw [show (l.length - i).toNat = (l.length - (i + 1)).toNat + 1 by omega, fU]

theorem fU_end {l : List Rec} {w : List Bool} {m i : Int} (h : (l.length : Int) ≤ i) : fU l w m (l.length - i).toNat i = -1 := by
  rw [show (l.length - i).toNat = 0 by omega, fU]

theorem fU_bd (l : List Rec) (w : List Bool) (m : Int) : ∀ (n : Nat) (i : Int), 0 ≤ i → fU l w m n i = -1 ∨ (i ≤ fU l w m n i ∧ fU l w m n i < i + n ∧ rd w (fU l w m n i) = false ∧ (rd l (fU l w m n i)).node = m) := by
  intro n
  induction n with
  | zero => intro i _; exact .inl rfl
  | succ n ih =>
    intro i h0
    simp only [fU]
    split
    · rename_i h
      exact .inr ⟨by omega, by omega, h.1, h.2⟩
    · rcases ih (i + 1) (by omega) with h | ⟨h1, h2, h3, h4⟩
      · exact .inl h
      · exact .inr ⟨by omega, by omega, h3, h4⟩

/-- All ahead of a place are told: then it is the first one of its node that is not. -/
theorem fU_min (l : List Rec) (w : List Bool) (k : Int) (hk : rd w k = false) : ∀ (n : Nat) (i : Int), i ≤ k → k < i + n → (∀ j, i ≤ j → j < k → rd w j = true) → fU l w (rd l k).node n i = k := by
  intro n
  induction n with
  | zero => intro i h1 h2; omega
  | succ n ih =>
    intro i h1 h2 h3
    simp only [fU]
    by_cases e : i = k
    · subst e
      rw [if_pos ⟨hk, rfl⟩]
    · rw [if_neg (fun h => by rw [h3 i (by omega) (by omega)] at h; cases h.1)]
      exact ih (i + 1) (by omega) (by omega) (fun j g1 g2 => h3 j (by omega) g2)

def dirsTold (l : List Rec) (w : List Bool) (i : Int) : Bool := (dirB l i).all fun k => rd w k

def readyS (l : List Rec) (w : List Bool) (m : Int) : Int := if 0 ≤ firstU l w m ∧ dirsTold l w (firstU l w m) = true then firstU l w m else -1

def pickF (l : List Rec) (w : List Bool) : Nat → Int → Int
  | 0, _ => -1
  | n + 1, m => if 0 ≤ readyS l w m then readyS l w m else pickF l w n (m + 1)

def pick (l : List Rec) (w : List Bool) : Int := pickF l w 6 1

theorem pick_step {l : List Rec} {w : List Bool} {m : Int} (h : m ≤ 6) : pickF l w (7 - m).toNat m = if 0 ≤ readyS l w m then readyS l w m else pickF l w (7 - (m + 1)).toNat (m + 1) := by
  rw [show (7 - m).toNat = (7 - (m + 1)).toNat + 1 by omega, pickF]

theorem pick_end {l : List Rec} {w : List Bool} {m : Int} (h : 7 ≤ m) : pickF l w (7 - m).toNat m = -1 := by
  rw [show (7 - m).toNat = 0 by omega, pickF]

theorem ready_bd (l : List Rec) (w : List Bool) (m : Int) : readyS l w m = -1 ∨ (0 ≤ readyS l w m ∧ readyS l w m < l.length ∧ rd w (readyS l w m) = false) := by
  unfold readyS
  split
  · rename_i h
    have := fU_bd l w m l.length 0 (by omega)
    unfold firstU at h ⊢
    rcases this with h1 | ⟨h1, h2, h3, _⟩
    · omega
    · exact .inr ⟨h1, by omega, h3⟩
  · exact .inl rfl

theorem pick_bd (l : List Rec) (w : List Bool) : ∀ (n : Nat) (m : Int), pickF l w n m = -1 ∨ (0 ≤ pickF l w n m ∧ pickF l w n m < l.length ∧ rd w (pickF l w n m) = false) := by
  intro n
  induction n with
  | zero => intro m; exact .inl rfl
  | succ n ih =>
    intro m
    simp only [pickF]
    split
    · rcases ready_bd l w m with h | h
      · omega
      · exact .inr h
    · exact ih (m + 1)

theorem pick_has (l : List Rec) (w : List Bool) (k : Int) (hk : 0 ≤ readyS l w k) : ∀ (n : Nat) (m : Int), m ≤ k → k < m + n → 0 ≤ pickF l w n m := by
  intro n
  induction n with
  | zero => intro m h1 h2; omega
  | succ n ih =>
    intro m h1 h2
    simp only [pickF]
    split
    · assumption
    · rename_i h
      by_cases e : m = k
      · subst e
        exact absurd hk h
      · exact ih (m + 1) (by omega) (by omega)

def trues (w : List Bool) : Nat := w.countP fun x => x

theorem trues_set {w : List Bool} {k : Int} (h0 : 0 ≤ k) (h1 : k < w.length) (h : rd w k = false) : trues (w.set k.toNat true) = trues w + 1 := by
  unfold trues
  rw [List.countP_set (by omega)]
  rw [rd_eq h0 h1] at h
  simp [h]

theorem exists_min (w : List Bool) (h : trues w < w.length) : ∃ k : Int, 0 ≤ k ∧ k < w.length ∧ rd w k = false ∧ ∀ j : Int, 0 ≤ j → j < k → rd w j = true := by
  have ex : ∃ k : Nat, k < w.length ∧ rd w (k : Int) = false := by
    apply Classical.byContradiction
    intro hn
    have : w.countP (fun x => x) = w.length := by
      rw [List.countP_eq_length]
      intro x hx
      obtain ⟨k, hk, he⟩ := List.getElem_of_mem hx
      cases hx2 : x with
      | true => rfl
      | false =>
        exact absurd ⟨k, hk, by rw [rd_eq (by omega) (by omega)]; simpa [hx2] using he⟩ hn
    unfold trues at h
    omega
  have key : ∀ n : Nat, (n < w.length ∧ rd w (n : Int) = false) → ∃ k : Int, 0 ≤ k ∧ k < w.length ∧ rd w k = false ∧ ∀ j : Int, 0 ≤ j → j < k → rd w j = true := by
    intro n
    induction n using Nat.strongRecOn with
    | _ n ih =>
      rintro ⟨h1, h2⟩
      by_cases hx : ∃ j : Nat, j < n ∧ rd w (j : Int) = false
      · obtain ⟨j, g1, g2⟩ := hx
        exact ih j g1 ⟨by omega, g2⟩
      · refine ⟨n, by omega, by omega, h2, fun j g1 g2 => ?_⟩
        cases hr : rd w j with
        | true => rfl
        | false => exact absurd ⟨j.toNat, by omega, by rw [show ((j.toNat : Nat) : Int) = j by omega]; exact hr⟩ hx
  obtain ⟨k, hk⟩ := ex
  exact key k hk

theorem pick_ok {l : List Rec} {w : List Bool} (hr : recsOk l = true) (hl : w.length = l.length) (h : trues w < w.length) : 0 ≤ pick l w ∧ pick l w < l.length ∧ rd w (pick l w) = false := by
  obtain ⟨k, h0, h1, h2, h3⟩ := exists_min w h
  have hn : 1 ≤ (rd l k).node ∧ (rd l k).node ≤ 6 := by
    have hm := rd_mem h0 (l := l) (n := k) (by omega)
    simp only [recsOk, Bool.and_eq_true, List.all_eq_true] at hr
    have := hr.2 _ hm
    simp only [recOk, inr, Bool.and_eq_true, decide_eq_true_eq] at this
    exact this.2.1
  have hf : firstU l w (rd l k).node = k := fU_min l w k h2 l.length 0 h0 (by omega) (fun j g1 g2 => h3 j g1 g2)
  have hd : dirsTold l w k = true := by
    unfold dirsTold
    rw [List.all_eq_true]
    intro j hj
    obtain ⟨g1, g2⟩ := dirB_mem h0 hj
    exact h3 j g1 g2
  have hready : readyS l w (rd l k).node = k := by
    unfold readyS
    rw [hf, if_pos ⟨h0, hd⟩]
  have hp := pick_has l w (rd l k).node (by omega) 6 1 (by omega) (by omega)
  rcases pick_bd l w 6 1 with hb | hb
  · omega
  · exact hb

def ordF (l : List Rec) : Nat → List Bool → List Int → List Int
  | 0, _, o => o
  | n + 1, w, o => ordF l n (w.set (pick l w).toNat true) (o ++ [pick l w])

def orderR (l : List Rec) : List Int := if recsOk l = true then ordF l l.length (List.replicate l.length false) [] else []

theorem ordF_step {l : List Rec} {w : List Bool} {o : List Int} (h : o.length < l.length) : ordF l (l.length - o.length) w o = ordF l (l.length - (o ++ [pick l w]).length) (w.set (pick l w).toNat true) (o ++ [pick l w]) := by
  simp only [List.length_append, List.length_cons, List.length_nil]
  rw [show l.length - o.length = (l.length - (o.length + (0 + 1))) + 1 by omega, ordF]

theorem ordF_end {l : List Rec} {w : List Bool} {o : List Int} (h : l.length ≤ o.length) : ordF l (l.length - o.length) w o = o := by
  rw [show l.length - o.length = 0 by omega, ordF]

theorem ordF_length (l : List Rec) : ∀ (n : Nat) (w : List Bool) (o : List Int), (ordF l n w o).length = o.length + n := by
  intro n
  induction n with
  | zero => intro w o; rfl
  | succ n ih =>
    intro w o
    rw [ordF, ih]
    simp
    omega

theorem orderR_length (l : List Rec) : (orderR l).length ≤ 400 := by
  unfold orderR
  split
  · rename_i h
    rw [ordF_length]
    simp only [recsOk, Bool.and_eq_true, decide_eq_true_eq] at h
    simp
    exact h.1
  · simp

theorem trues_zero (n : Nat) : trues (List.replicate n false) = 0 := by
  unfold trues
  simp

def recM (l : List Rec) : Int := if recsOk l = true then 1 else 0
theorem recM_iff (l : List Rec) : (recsOk l = true) = (recM l = 1 ∧ l.length ≤ 400) := by
  unfold recM
  rw [eq_iff_iff]
  constructor
  · intro h
    rw [if_pos h]
    simp only [recsOk, Bool.and_eq_true, decide_eq_true_eq] at h
    exact ⟨rfl, h.1⟩
  · rintro ⟨h, _⟩
    split at h
    · assumption
    · cases h
theorem recM_no (l : List Rec) : (recsOk l = false) = (recM l = 0) := by
  unfold recM
  cases recsOk l <;> simp

def conReady : Con := ⟨[.imm .rcd, .imm .bool, .v], .v, fun as => match as with
  | [.sl .rcd l, .sl .bool w, .int .i64 m] => guardP (w.length = l.length ∧ l.length ≤ 400) (some (.int .i64 (readyS l w m), []))
  | _ => none⟩

def conOrder : Con := ⟨[.imm .rcd], .own .int, fun as => match as with
  | [.sl .rcd l] => some (.own .int (orderR l), [])
  | _ => none⟩

theorem rd_bool (w : List Bool) (i : Int) : (rd w i = true) ∨ (rd w i = false) := by cases rd w i <;> simp

def tb71 : Tab := fun f => match f with
  | 144 => some conDir
  | _ => none

theorem tb71_144 : tb71 144 = some conDir := rfl

-- loop.example/g00678/spec.l15Ready hows []
def lp71_1 : AC := .seq (.seq (.reg [⟨some 32, .mv (.t 9), none⟩,
              ⟨some 33, .mv (.t 8), none⟩,
              ⟨some 34, .len (.t 33), none⟩,
              ⟨some 35, .bin .lss (.t 32) (.t 34), none⟩])
            (.cond (.t 35)
              (.skip)
              (.exit 2)))
            (.seq (.block 3 (.seq (.reg [⟨some 38, .mv (.t 1), none⟩,
                ⟨some 39, .mv (.t 8), none⟩,
                ⟨some 40, .mv (.t 9), none⟩,
                ⟨some 41, .ia .int (.t 39) (.t 40), none⟩,
                ⟨some 42, .ld false 1 (.t 41), none⟩,
                ⟨some 43, .ia .bool (.t 38) (.t 42), none⟩,
                ⟨some 44, .ld false 1 (.t 43), none⟩,
                ⟨some 45, .un .not (.t 44), none⟩])
              (.cond (.t 45)
                (.seq (.reg [⟨some 6, .mv (.i (-1)), none⟩])
                (.ret))
                (.skip))))
            (.reg [⟨some 36, .mv (.t 9), none⟩,
              ⟨some 37, .bin .add (.t 36) (.i 1), none⟩,
              ⟨some 9, .mv (.t 37), none⟩]))
def lp71_0 : AC := .seq (.seq (.reg [⟨some 10, .mv (.t 7), none⟩,
        ⟨some 11, .mv (.t 0), none⟩,
        ⟨some 12, .len (.t 11), none⟩,
        ⟨some 13, .bin .lss (.t 10) (.t 12), none⟩])
      (.cond (.t 13)
        (.skip)
        (.exit 0)))
      (.seq (.block 1 (.seq (.seq (.reg [⟨some 16, .mv (.t 1), none⟩,
          ⟨some 17, .mv (.t 7), none⟩,
          ⟨some 18, .ia .bool (.t 16) (.t 17), none⟩,
          ⟨some 19, .ld false 1 (.t 18), none⟩,
          ⟨some 20, .mv (.t 19), none⟩,
          ⟨some 21, .mv (.t 0), some (20, false)⟩,
          ⟨some 22, .mv (.t 7), some (20, false)⟩,
          ⟨some 23, .ia .rcd (.t 21) (.t 22), some (20, false)⟩,
          ⟨some 24, .fa 1 (.t 23), some (20, false)⟩,
          ⟨some 25, .ld false 1 (.t 24), some (20, false)⟩,
          ⟨some 26, .mv (.t 2), some (20, false)⟩,
          ⟨some 27, .bin .neq (.t 25) (.t 26), some (20, false)⟩,
          ⟨some 28, .pick (.t 20) (.b true) (.t 27), none⟩])
        (.cond (.t 28)
          (.exit 1)
          (.skip)))
        (.seq (.reg [⟨some 29, .mv (.t 0), none⟩,
          ⟨some 30, .mv (.t 7), none⟩,
          ⟨some 31, .call 144 [(.t 29), (.t 30)], none⟩,
          ⟨some 8, .mv (.t 31), none⟩])
        (.seq (.seq (.reg [⟨some 9, .mv (.i 0), none⟩])
        (.block 2 (.loop lp71_1)))
        (.seq (.reg [⟨some 46, .mv (.t 7), none⟩,
          ⟨some 6, .mv (.t 46), none⟩])
        (.ret))))))
      (.reg [⟨some 14, .mv (.t 7), none⟩,
        ⟨some 15, .bin .add (.t 14) (.i 1), none⟩,
        ⟨some 7, .mv (.t 15), none⟩]))
def af71 : AF := ⟨47, [.t 6],
  .seq (.reg [⟨some 6, .mv (.i 0), none⟩])
  (.seq (.seq (.reg [⟨some 7, .mv (.i 0), none⟩])
  (.block 0 (.loop lp71_0)))
  (.seq (.reg [⟨some 6, .mv (.i (-1)), none⟩])
  (.ret)))⟩

set_option maxHeartbeats 4000000 in
theorem does71 (as : List AV) (hok : ok 64 as) : Does tb71 af71 conReady as := by
  cases h : (conReady).run as with
  | none => exact does_none h
  | some out =>
    have h' := h
    simp only [conReady] at h'
    split at h'
    · rename_i l w m
      by_cases hp : w.length = l.length ∧ l.length ≤ 400
      case neg => simp [guardP, hp] at h'
      rw [guardP_pos hp] at h'
      obtain ⟨hp1, hp2⟩ := hp
      simp only [ok] at hok
      obtain ⟨⟨hlen, _⟩, _⟩ := hok
      have hfb := fU_bd l w m l.length 0 (by omega)
      simp only [Option.some.injEq] at h'
      subst h'
      have hmo : (most : Int) = 1099511627776 := rfl
      have hml : (maxLen : Int) = 9223372036854775807 := rfl
      with_reducible refine does_by h fun Q hQ => ?_
      clear h
      dsimp only [af71, conReady, go_sem, Nat.reduceAdd, Nat.reduceMul, Nat.reduceSub, Nat.reduceBEq, Nat.reduceLeDiff, Nat.reduceEqDiff, ↓dreduceIte, toG, tb71_144, conDir]
      repeat' first
        | with_reducible refine kon_seq ?_
        | with_reducible refine kon_nil ?_
        | with_reducible refine kon_any ?_ ?_
        | with_reducible exact kon_any_nil
        | with_reducible refine kon_skip ?_
        | with_reducible refine kon_block ?_
        | with_reducible refine kon_ret ?_
        | with_reducible refine kon_exit ?_
        | with_reducible refine kon_past_ret ?_
        | with_reducible refine kon_past_exit ?_
        | with_reducible refine kon_blk_ret ?_
        | with_reducible refine kon_blk_end ?_
        | with_reducible refine kon_blk_exit ?_
        | (with_reducible refine kon_blk_past ?_ ?_
           · decide)
        | with_reducible refine loop_exit ?_
        | with_reducible refine loop_ret ?_
        | with_reducible refine mid_exit ?_
        | with_reducible refine mid_ret ?_
        | ((first | with_reducible refine kon_bin fun R hR => ?_ | with_reducible refine kon_conv fun R hR => ?_)
           dsimp only [go_sem, Nat.reduceAdd, Nat.reduceMul, Nat.reduceSub, Nat.reduceBEq, Nat.reduceLeDiff, Nat.reduceEqDiff, ↓dreduceIte, toG, tb71_144, conDir]
           try simp (disch := first | omega | (simp only [List.length_set, List.length_append, List.length_cons, List.length_nil, List.length_replicate]; omega)) only [guardP_T, guardP_pos, iteN, rd_set, List.set_set, List.length_set, eta_fact, eta_rumor, eta_doubt, eta_item, eta_rec, eta_due, look, look0, rd_toNat, wrap64, Int.toNat_natCast, Nat.zero_add, List.take_length, List.drop_zero, and_self, setB_len, true_and, and_true]
           with_reducible refine hR _ ?_
           clear hR R)
        | (with_reducible refine kon_ins fun R hR => ?_
           dsimp only [go_sem, Nat.reduceAdd, Nat.reduceMul, Nat.reduceSub, Nat.reduceBEq, Nat.reduceLeDiff, Nat.reduceEqDiff, ↓dreduceIte, toG, tb71_144, conDir]
           first
             | with_reducible refine hR _ ?_
             | (simp (disch := first | omega | (simp only [List.length_set, List.length_append, List.length_cons, List.length_nil, List.length_replicate]; omega)) only [guardP_T, guardP_pos, iteN, rd_set, List.set_set, List.length_set, eta_fact, eta_rumor, eta_doubt, eta_item, eta_rec, eta_due, look, look0, rd_toNat, wrap64, Int.toNat_natCast, Nat.zero_add, List.take_length, List.drop_zero, and_self, setB_len, true_and, and_true]
                try dsimp only [go_sem, Nat.reduceAdd, Nat.reduceMul, Nat.reduceSub, Nat.reduceBEq, Nat.reduceLeDiff, Nat.reduceEqDiff, ↓dreduceIte, toG, tb71_144, conDir]
                try simp (disch := first | omega | (simp only [List.length_set, List.length_append, List.length_cons, List.length_nil, List.length_replicate]; omega)) only [guardP_T, guardP_pos, iteN, rd_set, List.set_set, List.length_set, eta_fact, eta_rumor, eta_doubt, eta_item, eta_rec, eta_due, look, look0, rd_toNat, wrap64, Int.toNat_natCast, Nat.zero_add, List.take_length, List.drop_zero, and_self, setB_len, true_and, and_true]
                with_reducible refine hR _ ?_)
           clear hR R)
        | (with_reducible refine kon_g_run ?_ ?_
           · dsimp only [nth] <;> with_reducible rfl)
        | (with_reducible refine kon_g_skip ?_ ?_
           · dsimp only [nth, not_t', not_f'] <;> with_reducible rfl
           dsimp only [go_sem])
        | (with_reducible refine kon_g_undef ?_ ?_
           · dsimp only [nth] <;> with_reducible rfl
           dsimp only [go_sem])
        | (with_reducible refine kon_g fun R hR => ?_
           dsimp only [go_sem, Nat.reduceAdd, Nat.reduceMul, Nat.reduceSub, Nat.reduceBEq, Nat.reduceLeDiff, Nat.reduceEqDiff, ↓dreduceIte, toG, tb71_144, conDir]
           split <;> (rename_i hb; with_reducible refine hR _ ?_; clear hR R; try simp only [hb]; try simp only [decide_eq_true_eq, decide_eq_false_iff_not, beq_iff_eq, beq_eq_false_iff_ne, bne_iff_ne, bne_eq_false_iff_eq, Bool.not_eq_true, Bool.not_eq_false, Bool.not_eq_eq_eq_not, Bool.not_true, Bool.not_false, ne_eq, Int.not_lt, Int.not_le, eq_self, not_true_eq_false, not_false_eq_true, decide_true, decide_false, Bool.and_eq_true, Bool.or_eq_true, Bool.and_eq_false_iff, Bool.or_eq_false_iff, gt_iff_lt, ge_iff_le, Bool.false_eq_true, Bool.true_eq_false, reduceCtorEq, or_false, false_or, or_true, true_or, false_and, and_false] at hb; try (exfalso; omega)))
        | (with_reducible refine kon_cond fun R1 R2 h1 h2 => ?_
           dsimp only [go_sem]
           first
             | (with_reducible refine h1 ?_; clear h1 h2 R1 R2)
             | (with_reducible refine h2 ?_; clear h1 h2 R1 R2)
             | ((split <;> rename_i hb <;> first
                 | (with_reducible refine h1 ?_; clear h1 h2 R1 R2; try simp only [hb])
                 | (with_reducible refine h2 ?_; clear h1 h2 R1 R2; try simp only [hb])) <;> (try simp only [decide_eq_true_eq, decide_eq_false_iff_not, beq_iff_eq, beq_eq_false_iff_ne, bne_iff_ne, bne_eq_false_iff_eq, Bool.not_eq_true, Bool.not_eq_false, Bool.not_eq_eq_eq_not, Bool.not_true, Bool.not_false, ne_eq, Int.not_lt, Int.not_le, eq_self, not_true_eq_false, not_false_eq_true, decide_true, decide_false, Bool.and_eq_true, Bool.or_eq_true, Bool.and_eq_false_iff, Bool.or_eq_false_iff, gt_iff_lt, ge_iff_le, Bool.false_eq_true, Bool.true_eq_false, reduceCtorEq, or_false, false_or, or_true, true_or, false_and, and_false] at hb; try (exfalso; omega))))
        | (with_reducible refine kon_rounds (a := lp71_0) [0, 1, 2, 7] (fun n9 s9 => ∃ (i : Int), ((0 ≤ i) ∧ (i ≤ l.length) ∧ (firstU l w m = fU l w m (l.length - i).toNat i)) ∧ n9 = (l.length - i).toNat ∧ s9.m = [] ∧ s9.t = [.sl .rcd l, .sl .bool w, .int .i64 m, nth s9.t 3, nth s9.t 4, nth s9.t 5, nth s9.t 6, .int .i64 i, nth s9.t 8, nth s9.t 9, nth s9.t 10, nth s9.t 11, nth s9.t 12, nth s9.t 13, nth s9.t 14, nth s9.t 15, nth s9.t 16, nth s9.t 17, nth s9.t 18, nth s9.t 19, nth s9.t 20, nth s9.t 21, nth s9.t 22, nth s9.t 23, nth s9.t 24, nth s9.t 25, nth s9.t 26, nth s9.t 27, nth s9.t 28, nth s9.t 29, nth s9.t 30, nth s9.t 31, nth s9.t 32, nth s9.t 33, nth s9.t 34, nth s9.t 35, nth s9.t 36, nth s9.t 37, nth s9.t 38, nth s9.t 39, nth s9.t 40, nth s9.t 41, nth s9.t 42, nth s9.t 43, nth s9.t 44, nth s9.t 45, nth s9.t 46]) ?_ ?_
           all_goals first
             | (rintro n9 ⟨t9, m9⟩ ⟨i, ⟨hI0, hI1, hI2⟩, rfl, hm9, ht9⟩
                dsimp only at hm9 ht9
                subst hm9
                rw [ht9]
                clear ht9
                dsimp only [lp71_0])
             | (dsimp only [go_sem, Nat.reduceAdd, Nat.reduceMul, Nat.reduceSub, Nat.reduceBEq, Nat.reduceLeDiff, Nat.reduceEqDiff, ↓dreduceIte, toG, tb71_144, conDir]
                refine ⟨_, _, ⟨?_, ?_, ?_⟩, rfl, rfl, rfl⟩))
        | (with_reducible refine loop_again (keep := [0, 1, 2, 7]) ?_
           dsimp only [go_sem, Nat.reduceAdd, Nat.reduceMul, Nat.reduceSub, Nat.reduceBEq, Nat.reduceLeDiff, Nat.reduceEqDiff, ↓dreduceIte, toG, tb71_144, conDir]
           refine ⟨_, ?_, _, ⟨?_, ?_, ?_⟩, rfl, rfl, rfl⟩)
        | (with_reducible refine kon_rounds (a := lp71_1) [1, 7, 8, 9] (fun n9 s9 => ∃ (k : Int), ((0 ≤ k) ∧ (k ≤ (dirB l i).length) ∧ (((dirB l i).take k.toNat).all (fun k => rd w k) = true) ∧ (k < (dirB l i).length → 0 ≤ @rd Int _ (dirB l i) k) ∧ (k < (dirB l i).length → @rd Int _ (dirB l i) k < i) ∧ (firstU l w m = i) ∧ ((dirB l i).length ≤ 2)) ∧ n9 = ((dirB l i).length - k).toNat ∧ s9.m = [.row 0 .int (dirB l i)] ∧ s9.t = [nth s9.t 0, .sl .bool w, nth s9.t 2, nth s9.t 3, nth s9.t 4, nth s9.t 5, nth s9.t 6, .int .i64 i, .ms 0 0 0 (dirB l i).length, .int .i64 k, nth s9.t 10, nth s9.t 11, nth s9.t 12, nth s9.t 13, nth s9.t 14, nth s9.t 15, nth s9.t 16, nth s9.t 17, nth s9.t 18, nth s9.t 19, nth s9.t 20, nth s9.t 21, nth s9.t 22, nth s9.t 23, nth s9.t 24, nth s9.t 25, nth s9.t 26, nth s9.t 27, nth s9.t 28, nth s9.t 29, nth s9.t 30, nth s9.t 31, nth s9.t 32, nth s9.t 33, nth s9.t 34, nth s9.t 35, nth s9.t 36, nth s9.t 37, nth s9.t 38, nth s9.t 39, nth s9.t 40, nth s9.t 41, nth s9.t 42, nth s9.t 43, nth s9.t 44, nth s9.t 45, nth s9.t 46]) ?_ ?_
           all_goals first
             | (rintro n9 ⟨t9, m9⟩ ⟨k, ⟨hI0, hI1, hI2, hI3, hI4, hI5, hI6⟩, rfl, hm9, ht9⟩
                dsimp only at hm9 ht9
                subst hm9
                rw [ht9]
                clear ht9
                dsimp only [lp71_1])
             | (dsimp only [go_sem, Nat.reduceAdd, Nat.reduceMul, Nat.reduceSub, Nat.reduceBEq, Nat.reduceLeDiff, Nat.reduceEqDiff, ↓dreduceIte, toG, tb71_144, conDir]
                refine ⟨_, _, ⟨?_, ?_, ?_, ?_, ?_, ?_, ?_⟩, rfl, rfl, rfl⟩))
        | (with_reducible refine loop_again (keep := [1, 7, 8, 9]) ?_
           dsimp only [go_sem, Nat.reduceAdd, Nat.reduceMul, Nat.reduceSub, Nat.reduceBEq, Nat.reduceLeDiff, Nat.reduceEqDiff, ↓dreduceIte, toG, tb71_144, conDir]
           refine ⟨_, ?_, _, ⟨?_, ?_, ?_, ?_, ?_, ?_, ?_⟩, rfl, rfl, rfl⟩)
      all_goals first
        | (dsimp only [kon]
           with_reducible refine hQ _ _ _ ?_
           dsimp only [kon, endQ, af71, conReady, go_sem, Nat.reduceAdd, Nat.reduceMul, Nat.reduceSub, Nat.reduceBEq, Nat.reduceLeDiff, Nat.reduceEqDiff, ↓dreduceIte, toG, tb71_144, conDir]
           try simp (disch := first | omega | (simp only [List.length_set, List.length_append, List.length_cons, List.length_nil, List.length_replicate]; omega)) only [guardP_T, guardP_pos, iteN, rd_set, List.set_set, List.length_set, eta_fact, eta_rumor, eta_doubt, eta_item, eta_rec, eta_due, look, look0, rd_toNat, wrap64, Int.toNat_natCast, Nat.zero_add, List.take_length, List.drop_zero, and_self, setB_len, true_and, and_true]
           try dsimp only [go_sem, Nat.reduceAdd, Nat.reduceMul, Nat.reduceSub, Nat.reduceBEq, Nat.reduceLeDiff, Nat.reduceEqDiff, ↓dreduceIte, toG, tb71_144, conDir])
        | skip
      all_goals try first
        | omega
        | (simp; done)
        | (simp; omega)
      all_goals first
        | (simp; done)
        | rfl
        | (rw [hI2, fU_step (by omega), if_neg (fun h => by rw [hb] at h; cases h.1)]; done)
        | (rw [hI2, fU_step (by omega), if_neg (fun h => hb h.2)]; done)
        | (intro h
           exact (dirB_mem (by omega) (rd_mem (by omega) h)).1)
        | (intro h
           exact (dirB_mem (by omega) (rd_mem (by omega) h)).2)
        | (rw [hI2, fU_step (by omega), if_pos ⟨by assumption, hb⟩]; done)
        | (unfold readyS
           rw [hI5, if_neg (fun h => by
             have := List.all_eq_true.1 h.2 _ (rd_mem hI0 (by assumption))
             rw [hb] at this
             cases this)]
           done)
        | (rw [take_rd hI0 (by omega), List.all_append, hI2]
           simp [hb]
           done)
        | (unfold readyS
           rw [take_all (by omega)] at hI2
           rw [hI5, if_pos ⟨by omega, hI2⟩]
           done)
        | (rw [fU_end (by omega)] at hI2
           unfold readyS
           rw [hI2, if_neg (by omega)]
           done)
        | exact dirB_length l i
        | omega
    · simp at h'

end Go.Proofs.Ytnghlmogcbmlfaa
