/- What breaks a clause: both sides say the same. -/
import Derived.Test.YtnghlmogcbmlfaaFitsC
namespace Go.Proofs.Ytnghlmogcbmlfaa
set_option linter.unusedVariables false
set_option linter.unusedSimpArgs false
set_option linter.unnecessarySimpa false

theorem lastI_any {p : Rec → Bool} {l : List Rec} (n : Nat) (hn : n ≤ l.length) : 0 ≤ lastI p l n ↔ (l.take n).any p = true := by
  induction n with
  | zero => simp [lastI]
  | succ n ih =>
    have ht : l.take (n + 1) = l.take n ++ [rd l n] := by
      have := take_rd (l := l) (n := (n : Int)) (by omega) (by omega)
      rw [show ((n : Int) + 1).toNat = n + 1 by omega, Int.toNat_natCast] at this
      exact this
    rw [ht, List.any_append, lastI]
    by_cases h : p (rd l n) = true
    · simp [h]
    · rw [if_neg h, ih (by omega)]
      simp [h]

/-- Places behind one and ahead of another at which a record is so. -/
def selI (p : Rec → Bool) (l : List Rec) (s : Int) : Nat → List Int
  | 0 => []
  | n + 1 => selI p l s n ++ (if s < n ∧ p (rd l n) = true then [(n : Int)] else [])

def riseI (p q : Rec → Bool) (l : List Rec) : Nat → Int
  | 0 => -1
  | n + 1 => if q (rd l n) = true then -1 else if p (rd l n) = true then n else riseI p q l n

theorem riseI_step {p q : Rec → Bool} {l : List Rec} {k : Int} (h : 0 ≤ k) : riseI p q l (k + 1).toNat = if q (rd l k) = true then -1 else if p (rd l k) = true then k else riseI p q l k.toNat := by
  rw [succ_toNat h, riseI, show ((k.toNat : Nat) : Int) = k by omega]

theorem selI_step {p : Rec → Bool} {l : List Rec} {s k : Int} (h : 0 ≤ k) : selI p l s (k + 1).toNat = selI p l s k.toNat ++ (if s < k ∧ p (rd l k) = true then [k] else []) := by
  rw [succ_toNat h, selI, show ((k.toNat : Nat) : Int) = k by omega]

theorem selI_low {p : Rec → Bool} {l : List Rec} {s : Int} (n : Nat) (h : (n : Int) ≤ s + 1) : selI p l s n = [] := by
  induction n with
  | zero => rfl
  | succ n ih =>
    rw [selI, ih (by omega), if_neg (by omega)]
    rfl

theorem selI_length (p : Rec → Bool) (l : List Rec) (s : Int) (n : Nat) : (selI p l s n).length ≤ n := by
  induction n with
  | zero => simp [selI]
  | succ n ih =>
    simp only [selI, List.length_append]
    split <;> simp <;> omega

theorem selI_mem {p : Rec → Bool} {l : List Rec} {s : Int} {n : Nat} {k : Int} (h : k ∈ selI p l s n) : 0 ≤ k ∧ k < n := by
  induction n with
  | zero => simp [selI] at h
  | succ n ih =>
    simp only [selI, List.mem_append] at h
    rcases h with h | h
    · have := ih h
      omega
    · split at h
      · simp only [List.mem_singleton] at h
        omega
      · simp at h

def lastL : List Int → Int
  | [] => -1
  | [x] => x
  | _ :: r => lastL r

theorem lastL_snoc (a : List Int) (x : Int) : lastL (a ++ [x]) = x := by
  induction a with
  | nil => rfl
  | cons b r ih =>
    cases r with
    | nil => rfl
    | cons c r => exact ih

theorem lastL_rd (a : List Int) (h : a ≠ []) : lastL a = rd a ((a.length : Int) - 1) := by
  obtain ⟨b, x, rfl⟩ : ∃ b x, a = b ++ [x] := ⟨a.dropLast, a.getLast h, (List.dropLast_concat_getLast h).symm⟩
  rw [lastL_snoc]
  unfold rd
  rw [List.getD_eq_getElem?_getD, List.getElem?_append_right (by simp)]
  simp

/-- The last one of the places behind the last start is what is found from behind. -/
theorem rise_last (p q : Rec → Bool) (l : List Rec) (n : Nat) : lastL (selI p l (lastI q l n) n) = riseI p q l n := by
  induction n with
  | zero => rfl
  | succ n ih =>
    rw [riseI, lastI]
    by_cases hq : q (rd l n) = true
    · rw [if_pos hq, if_pos hq, selI_low _ (by omega)]
      rfl
    · rw [if_neg hq, if_neg hq, selI]
      have hs := lastI_lt q l n
      by_cases hp : p (rd l n) = true
      · rw [if_pos hp, if_pos ⟨hs, hp⟩, lastL_snoc]
      · rw [if_neg hp, if_neg (fun h => hp h.2), List.append_nil, ih]

theorem selI_some (p : Rec → Bool) (l : List Rec) (s : Int) (n : Nat) : 0 ≤ lastL (selI p l s n) ↔ 0 < (selI p l s n).length := by
  cases h : selI p l s n with
  | nil => simp [lastL]
  | cons a r =>
    have h1 := lastL_rd (a :: r) (by simp)
    have h2 : lastL (a :: r) ∈ selI p l s n := by
      rw [h1, h, rd_eq (by simp) (by simp; omega)]
      exact List.getElem_mem _
    have h3 := selI_mem h2
    simp only [List.length_cons]
    omega

def knownP (c : Int) (x r : Rec) : Bool :=
  if c = 7 then toldN r x.a == x.b
  else if c = 8 then missP x.a r
  else if c = 9 then (r.kind == 5 && (r.node == x.a && (r.a == x.a && (r.b == x.b && r.c == 3)))) || (r.kind == 5 && (r.a == x.a && (r.b == x.b && (r.c == 2 && decide (IntKind.i64.wrap (r.at_ + 12) ≤ x.at_)))))
  else false

def bornP (n a : Int) (r : Rec) : Bool := decide (a ≤ toldN r n)

/-- What breaks a clause, as the program says it. -/
def breaksI (l : List Rec) (i c : Int) : Bool :=
  if c = 1 then decide (0 < i) && decide ((rd l i).at_ < (rd l (i - 1)).at_)
  else if c = 2 then (rd l i).kind != 1 && !livesB l i (rd l i).node
  else if c = 3 then (rd l i).kind == 1 && (livesB l i (rd l i).node || decide (0 ≤ lastI (noLessP (rd l i).node (rd l i).a) l i.toNat))
  else if c = 4 then ((rd l i).kind == 3 || (rd l i).kind == 4) && decide (0 ≤ lastI (sameP (rd l i)) l i.toNat)
  else if c = 5 then (rd l i).kind == 4 && !decide (0 ≤ lastI (sentP (rd l i)) l i.toNat)
  else if c = 6 then (rd l i).kind == 5 && decide (0 < (selI (riseP (rd l i)) l (lastI (startP (rd l i).node) l i.toNat) i.toNat).length)
  else if c = 7 then ((rd l i).kind == 5 && (rd l i).a != (rd l i).node) && !decide (0 ≤ lastI (ownEqP (rd l i).a (rd l i).b) l i.toNat)
  else if c = 8 then ((rd l i).kind == 5 && (rd l i).a != (rd l i).node) && ((rd l i).c == 2 && !decide (0 ≤ lastI (missP (rd l i).a) l i.toNat))
  else if c = 9 then ((rd l i).kind == 5 && (rd l i).a != (rd l i).node) && ((rd l i).c == 3 && !decide (0 ≤ lastI (goneP (rd l i)) l i.toNat))
  else false

/-- What breaks a clause, as the specification says it. -/
def breaksS (l : List Rec) (i c : Int) : Bool :=
  if c = 1 then decide (0 < i) && decide ((rd l i).at_ < (rd l (i - 1)).at_)
  else if c = 2 then (rd l i).kind != 1 && !livesB l i (rd l i).node
  else if c = 3 then (rd l i).kind == 1 && (livesB l i (rd l i).node || decide (0 ≤ firstI (bornP (rd l i).node (rd l i).a) (l.take i.toNat) 0))
  else if c = 4 then ((rd l i).kind == 3 || (rd l i).kind == 4) && decide (0 ≤ lastI (sameP (rd l i)) l i.toNat)
  else if c = 5 then (rd l i).kind == 4 && !((l.take i.toNat).any (sentP (rd l i)))
  else if c = 6 then (rd l i).kind == 5 && decide (0 ≤ riseI (riseP (rd l i)) (startP (rd l i).node) l i.toNat)
  else if c = 7 then ((rd l i).kind == 5 && (rd l i).a != (rd l i).node) && !((l.take i.toNat).any (knownP c (rd l i)))
  else if c = 8 then ((rd l i).kind == 5 && (rd l i).a != (rd l i).node) && ((rd l i).c == 2 && !((l.take i.toNat).any (knownP c (rd l i))))
  else if c = 9 then ((rd l i).kind == 5 && (rd l i).a != (rd l i).node) && ((rd l i).c == 3 && !((l.take i.toNat).any (knownP c (rd l i))))
  else false

theorem any_same {p q : Rec → Bool} {l : List Rec} (h : ∀ x ∈ l, p x = q x) : l.any p = l.any q := by
  induction l with
  | nil => rfl
  | cons x r ih => rw [List.any_cons, List.any_cons, h x (by simp), ih (fun y hy => h y (by simp [hy]))]

theorem recOk_at {x : Rec} (h : recOk x = true) : 0 ≤ x.at_ ∧ x.at_ ≤ 1000000 := by
  simp only [recOk, inr, Bool.and_eq_true, decide_eq_true_eq] at h
  omega

theorem recOk_start {x : Rec} (h : recOk x = true) (k : x.kind = 1) : 0 ≤ x.a := by
  simp only [recOk, inr, Bool.and_eq_true, decide_eq_true_eq, k, if_true] at h
  omega

theorem recOk_view {x : Rec} (h : recOk x = true) (k : x.kind = 5) : 0 ≤ x.b := by
  simp [recOk, inr, k] at h
  omega

theorem told_own (r : Rec) (n a : Int) (h : 0 ≤ a) : noLessP n a r = bornP n a r := by
  rw [Bool.eq_iff_iff]
  simp only [noLessP, bornP, ownB, ownN, toldN, Bool.and_eq_true, Bool.or_eq_true, beq_iff_eq, decide_eq_true_eq]
  by_cases h1 : r.node = n
  · by_cases h2 : r.kind = 1
    · simp [h1, h2]
    · by_cases h3 : r.kind = 5
      · by_cases h4 : r.a = n
        · simp [h1, h3, h4]
        · simp only [h1, h3, h4, and_false, or_false, false_and, if_false, ne_eq, not_true_eq_false, show ¬((5 : Int) = 1) by decide, and_true, false_iff]
          exact fun hd => absurd (of_decide_eq_true hd) (by omega)
      · simp only [h1, h2, h3, and_false, or_false, false_and, if_false, ne_eq, not_true_eq_false, and_true, false_iff]
        exact fun hd => absurd (of_decide_eq_true hd) (by omega)
  · simp only [h1, false_and, or_false, ne_eq, not_false_eq_true, if_true, false_iff]
    exact fun hd => absurd (of_decide_eq_true hd) (by omega)

theorem told_eq (r : Rec) (a b : Int) (h : 0 ≤ b) : ownEqP a b r = (toldN r a == b) := by
  rw [Bool.eq_iff_iff]
  simp only [ownEqP, ownB, ownN, toldN, Bool.and_eq_true, Bool.or_eq_true, beq_iff_eq]
  by_cases h1 : r.node = a
  · by_cases h2 : r.kind = 1
    · simp [h1, h2]
    · by_cases h3 : r.kind = 5
      · by_cases h4 : r.a = a
        · simp [h1, h3, h4]
        · simp only [h1, h3, h4, and_false, or_false, false_and, if_false, ne_eq, not_true_eq_false, show ¬((5 : Int) = 1) by decide, and_true, false_iff]
          omega
      · simp only [h1, h2, h3, and_false, or_false, false_and, if_false, ne_eq, not_true_eq_false, and_true, false_iff]
        omega
  · simp only [h1, false_and, or_false, ne_eq, not_false_eq_true, if_true, false_iff]
    omega

theorem recsOk_mem {l : List Rec} (h : recsOk l = true) {x : Rec} (hx : x ∈ l) : recOk x = true := by
  simp only [recsOk, Bool.and_eq_true, List.all_eq_true] at h
  exact h.2 x hx

theorem rd_mem' {l : List Rec} {i : Int} (h0 : 0 ≤ i) (h1 : i < l.length) : rd l i ∈ l := by
  rw [rd_eq h0 h1]
  exact List.getElem_mem _

theorem gone_known {x r : Rec} (hx : recOk x = true) (hr : recOk r = true) : goneP x r = knownP 9 x r := by
  have h1 := recOk_at hx
  have h2 := recOk_at hr
  simp only [goneP, knownP, show ¬((9 : Int) = 7) by decide, show ¬((9 : Int) = 8) by decide, if_false, if_true]
  rw [wrap64 (by omega) (by omega), wrap64 (by omega) (by omega)]
  rw [Bool.eq_iff_iff]
  simp only [Bool.and_eq_true, Bool.or_eq_true, beq_iff_eq, decide_eq_true_eq]
  constructor
  · rintro ⟨a, b, c, d | d⟩
    · exact .inr ⟨a, b, c, d.1, by omega⟩
    · exact .inl ⟨a, d.2, b, c, d.1⟩
  · rintro (⟨a, b, c, d, e⟩ | ⟨a, b, c, d, e⟩)
    · exact ⟨a, c, d, .inr ⟨e, b⟩⟩
    · exact ⟨a, b, c, .inl ⟨d, by omega⟩⟩

/-- Both sides tell the same of right records. -/
theorem breaks_same {l : List Rec} {i c : Int} (h : recsOk l = true) (h0 : 0 ≤ i) (h1 : i < l.length) : breaksI l i c = breaksS l i c := by
  have hi := recsOk_mem h (rd_mem' h0 h1)
  have hm : ∀ x ∈ l.take i.toNat, recOk x = true := fun x hx => recsOk_mem h (List.mem_of_mem_take hx)
  have hn : i.toNat ≤ l.length := by omega
  unfold breaksI breaksS
  repeat' (first | split | rfl)
  · by_cases k : (rd l i).kind = 1
    · have ha := recOk_start hi k
      simp only [k, beq_self_eq_true, Bool.true_and]
      congr 1
      rw [decide_eq_decide, lastI_any _ hn, firstI_any _ _ _ (by omega), any_same (fun x _ => told_own x _ _ ha)]
    · have : ((rd l i).kind == 1) = false := by simp [k]
      rw [this]
      rfl
  · congr 2
    rw [Bool.eq_iff_iff, decide_eq_true_eq, lastI_any _ hn]
  · congr 1
    rw [decide_eq_decide, ← rise_last, selI_some]
  · subst_vars
    by_cases k : (rd l i).kind = 5
    · have hb := recOk_view hi k
      congr 2
      rw [Bool.eq_iff_iff, decide_eq_true_eq, lastI_any _ hn]
      rw [any_same (q := knownP 7 (rd l i)) (fun x _ => by rw [told_eq _ _ _ hb]; simp [knownP])]
    · have : ((rd l i).kind == 5) = false := by simp [k]
      rw [this]
      rfl
  · subst_vars
    congr 3
    rw [Bool.eq_iff_iff, decide_eq_true_eq, lastI_any _ hn]
    rw [any_same (q := knownP 8 (rd l i)) (fun x _ => by simp [knownP])]
  · subst_vars
    congr 3
    rw [Bool.eq_iff_iff, decide_eq_true_eq, lastI_any _ hn]
    rw [any_same (q := knownP 9 (rd l i)) (fun x hx => gone_known hi (hm x hx))]

end Go.Proofs.Ytnghlmogcbmlfaa
