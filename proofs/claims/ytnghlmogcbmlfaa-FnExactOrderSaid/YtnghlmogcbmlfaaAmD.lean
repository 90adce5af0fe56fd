/- One block more, or one block turned: the small machine's memory still stands for the model's. -/
import Derived.Test.YtnghlmogcbmlfaaAmC
namespace Go.Proofs.Ytnghlmogcbmlfaa
set_option linter.unusedVariables false
set_option linter.unusedSimpArgs false

theorem bnth_ge {m : List Blk} {i : Nat} (h : m.length ≤ i) : bnth m i = .dead := by
  induction m generalizing i with
  | nil => rfl
  | cons x m ih => cases i with
    | zero => simp at h
    | succ i => exact ih (by simpa using h)

theorem bnth_setB_same {m : List Blk} {i : Nat} {x : Blk} (h : i < m.length) : bnth (setB m i x) i = x := by
  induction m generalizing i with
  | nil => simp at h
  | cons y m ih => cases i with
    | zero => rfl
    | succ i => exact ih (by simpa using h)

theorem bnth_setB_other {m : List Blk} {i j : Nat} {x : Blk} (h : i ≠ j) : bnth (setB m i x) j = bnth m j := by
  induction m generalizing i j with
  | nil => rfl
  | cons y m ih => cases i with
    | zero => cases j with
      | zero => exact absurd rfl h
      | succ j => rfl
    | succ i => cases j with
      | zero => rfl
      | succ j => exact ih (fun e => h (by rw [e]))

theorem length_setB {m : List Blk} {i : Nat} {x : Blk} : (setB m i x).length = m.length := by
  induction m generalizing i with
  | nil => rfl
  | cons y m ih => cases i with
    | zero => rfl
    | succ i => simp [setB, ih]

theorem bnth_app_left {m n : List Blk} {i : Nat} (h : i < m.length) : bnth (m ++ n) i = bnth m i := by
  induction m generalizing i with
  | nil => simp at h
  | cons y m ih => cases i with
    | zero => rfl
    | succ i => exact ih (by simpa using h)

theorem bnth_app_new {m : List Blk} {x : Blk} : bnth (m ++ [x]) m.length = x := by
  induction m with
  | nil => rfl
  | cons y m ih => exact ih

theorem bnth_of {m : List Blk} {i : Nat} {x : Blk} (h : bnth m i = x) (hx : x ≠ .dead) : i < m.length := by
  rcases Nat.lt_or_ge i m.length with h1 | h1
  · exact h1
  · exact absurd (h.symm.trans (bnth_ge h1)) hx

theorem nth_ge {l : List AV} {i : Nat} (h : l.length ≤ i) : nth l i = .undef := by
  induction l generalizing i with
  | nil => rfl
  | cons x m ih => cases i with
    | zero => simp at h
    | succ i => exact ih (by simpa using h)

theorem nth_setN_same {l : List AV} {i : Nat} {x : AV} (h : i < l.length) : nth (setN l i x) i = x := by
  induction l generalizing i with
  | nil => simp at h
  | cons y m ih => cases i with
    | zero => rfl
    | succ i => exact ih (by simpa using h)

theorem nth_setN_other {l : List AV} {i j : Nat} {x : AV} (h : i ≠ j) : nth (setN l i x) j = nth l j := by
  induction l generalizing i j with
  | nil => rfl
  | cons y m ih => cases i with
    | zero => cases j with
      | zero => exact absurd rfl h
      | succ j => rfl
    | succ i => cases j with
      | zero => rfl
      | succ j => exact ih (fun e => h (by rw [e]))

theorem length_setN {l : List AV} {i : Nat} {x : AV} : (setN l i x).length = l.length := by
  induction l generalizing i with
  | nil => rfl
  | cons y m ih => cases i with
    | zero => rfl
    | succ i => simp [setN, ih]

theorem nth_eq {l : List AV} {i : Nat} (h : i < l.length) : nth l i = l[i] := by
  induction l generalizing i with
  | nil => simp at h
  | cons y m ih => cases i with
    | zero => rfl
    | succ i => simpa [nth] using ih (by simpa using h)

theorem nth_cons_succ {x : AV} {l : List AV} {i : Nat} : nth (x :: l) (i + 1) = nth l i := rfl

theorem nth_app_left {l n : List AV} {i : Nat} (h : i < l.length) : nth (l ++ n) i = nth l i := by
  induction l generalizing i with
  | nil => simp at h
  | cons y m ih => cases i with
    | zero => rfl
    | succ i => exact ih (by simpa using h)

theorem nth_app_right {l n : List AV} {i : Nat} (h : l.length ≤ i) : nth (l ++ n) i = nth n (i - l.length) := by
  induction l generalizing i with
  | nil => rfl
  | cons y m ih => cases i with
    | zero => simp at h
    | succ i => simpa [nth] using ih (i := i) (by simpa using h)

theorem BlkRep.ext {w : World} {L : List LB} {Z : Nat → Prop} {w' : World} {L' : List LB} {Z' : Nat → Prop} {x : LB} {β : Blk}
    (h : BlkRep w L Z x β) (e : Ext w L Z w' L' Z') (hs : ∀ b, x.owns b → w'.heap[b]? = w.heap[b]?) : BlkRep w' L' Z' x β := by
  cases x with
  | dead => cases β <;> exact h
  | cell b => cases β with
    | cells cs =>
      obtain ⟨C, t, h1, h2, h3⟩ := h
      exact ⟨C, t, by rw [hs b rfl]; exact h1, h2, fun j hj => (h3 j hj).ext e⟩
    | dead => exact h
    | row v k l => exact h
  | row b v n => cases β with
    | dead => cases b <;> exact h
    | cells cs => cases b <;> exact h
    | row v' k l => cases b with
      | none => exact h
      | some b =>
        obtain ⟨h1, h2, h3, C, t, z, h4, h5, h6, h7⟩ := h
        exact ⟨h1, h2, h3, C, t, z, by rw [hs b rfl]; exact h4, h5, h6, fun i x hx j hj => (h7 i x hx j hj).ext e⟩

section turned
variable {w0 : World} {F0 X0 : Nat → Prop} {m : List Blk} {L : List LB} {w w' : World}

theorem getElem?_set_ne' {L : List LB} {i j : Nat} {y : LB} (h : i ≠ j) : (L.set i y)[j]? = L[j]? := by
  rw [List.getElem?_set]; simp [h]

theorem getElem?_set_eq' {L : List LB} {i : Nat} {x y : LB} (h : L[i]? = some x) : (L.set i y)[i]? = some y := by
  have hi : i < L.length := by
    rcases Nat.lt_or_ge i L.length with h1 | h1
    · exact h1
    · simp [List.getElem?_eq_none h1] at h
  rw [List.getElem?_set]; simp [hi]

theorem owns_set {L : List LB} {i b : Nat} {x y : LB} (hx : L[i]? = some x) (h : Owns (L.set i y) b) : Owns L b ∨ y.owns b := by
  obtain ⟨j, z, hz, ho⟩ := h
  by_cases e : i = j
  · subst e
    rw [getElem?_set_eq' hx] at hz
    obtain rfl := Option.some.inj hz
    exact .inr ho
  · rw [getElem?_set_ne' e] at hz
    exact .inl ⟨j, z, hz, ho⟩

theorem SimM.ext_upd (_h : SimM w0 F0 X0 m L w) {id : Nat} {x y : LB} (hx : L[id]? = some x) (hle : LE x y) (hsize : w.heap.size ≤ w'.heap.size)
    (hsame : ∀ b, b < w.heap.size → ¬ x.owns b → w'.heap[b]? = w.heap[b]?) (hsz : ∀ b, b < w.heap.size → szOf w' b = szOf w b)
    (hown : ∀ b, y.owns b → x.owns b ∨ w.heap.size ≤ b) : Ext w L (ZZ X0 L) w' (L.set id y) (ZZ X0 (L.set id y)) where
  size := hsize
  same b hb hz := hsame b hb (fun ho => hz (.inr ⟨id, x, hx, ho⟩))
  sz := hsz
  z b hb := by
    rcases hb with hb | hb
    · exact .inl (.inl hb)
    · rcases owns_set hx hb with h1 | h1
      · exact .inl (.inr h1)
      · rcases hown b h1 with h2 | h2
        · exact .inl (.inr ⟨id, x, hx, h2⟩)
        · exact .inr h2
  le i z hz := by
    by_cases e : id = i
    · subst e
      rw [hx] at hz
      obtain rfl := Option.some.inj hz
      exact ⟨y, getElem?_set_eq' hx, hle⟩
    · exact ⟨z, by rw [getElem?_set_ne' e]; exact hz, .refl z⟩

theorem SimM.upd (h : SimM w0 F0 X0 m L w) {id : Nat} {x y : LB} {β : Blk} (hx : L[id]? = some x) (hle : LE x y) (hsize : w.heap.size ≤ w'.heap.size)
    (hsame : ∀ b, b < w.heap.size → ¬ x.owns b → w'.heap[b]? = w.heap[b]?) (hsz : ∀ b, b < w.heap.size → szOf w' b = szOf w b)
    (hown : ∀ b, y.owns b → x.owns b ∨ w.heap.size ≤ b) (hos : w'.os = w.os) (htape : w'.tape = w.tape) (hout : w'.output = w.output)
    (hb : BlkRep w' (L.set id y) (ZZ X0 (L.set id y)) y β) : SimM w0 F0 X0 (setB m id β) (L.set id y) w' := by
  have e := h.ext_upd hx hle hsize hsame hsz hown
  have hid : id < m.length := by
    rw [← h.ll]
    rcases Nat.lt_or_ge id L.length with h1 | h1
    · exact h1
    · simp [List.getElem?_eq_none h1] at hx
  have hlt : ∀ (j : Nat) (z : LB) (b : Nat), L[j]? = some z → z.owns b → b < w.heap.size := by
    intro j z b hz ho
    have hB := h.blk j z hz
    cases z with
    | dead => exact ho.elim
    | cell c =>
      obtain rfl : c = b := ho
      cases hβ : bnth m j with
      | dead => rw [hβ] at hB; exact hB.elim
      | row v k l => rw [hβ] at hB; exact hB.elim
      | cells cs =>
        rw [hβ] at hB
        obtain ⟨C, t, h1, _⟩ := hB
        exact (Array.getElem?_eq_some_iff.1 h1).1
    | row c v n => cases c with
      | none => exact ho.elim
      | some c =>
        obtain rfl : c = b := ho
        cases hβ : bnth m j with
        | dead => rw [hβ] at hB; exact hB.elim
        | cells cs => rw [hβ] at hB; exact hB.elim
        | row v k l =>
          rw [hβ] at hB
          obtain ⟨_, _, _, C, t, z, h1, _⟩ := hB
          exact (Array.getElem?_eq_some_iff.1 h1).1
  refine ⟨by rw [List.length_set, length_setB]; exact h.ll, ?_, ?_, ?_, ?_, ?_, fun b hb => Nat.lt_of_lt_of_le (h.xl b hb) hsize⟩
  · intro j z hz
    by_cases e1 : id = j
    · subst e1
      rw [getElem?_set_eq' hx] at hz
      obtain rfl := Option.some.inj hz
      rw [bnth_setB_same hid]
      exact hb
    · rw [getElem?_set_ne' e1] at hz
      rw [bnth_setB_other e1]
      refine (h.blk j z hz).ext e (fun b ho => hsame b (hlt j z b hz ho) (fun hxo => e1 (h.inj id j x z b hx hz hxo ho)))
  · intro i j p q b hp hq ho ho'
    by_cases e1 : id = i
    · subst e1
      by_cases e2 : id = j
      · exact e2
      · rw [getElem?_set_eq' hx] at hp
        obtain rfl := Option.some.inj hp
        rw [getElem?_set_ne' e2] at hq
        rcases hown b ho with h1 | h1
        · exact absurd (h.inj id j x q b hx hq h1 ho') e2
        · have := hlt j q b hq ho'
          omega
    · rw [getElem?_set_ne' e1] at hp
      by_cases e2 : id = j
      · subst e2
        rw [getElem?_set_eq' hx] at hq
        obtain rfl := Option.some.inj hq
        rcases hown b ho' with h1 | h1
        · exact absurd (h.inj i id p x b hp hx ho h1) (Ne.symm e1)
        · have := hlt i p b hp ho
          omega
      · rw [getElem?_set_ne' e2] at hq
        exact h.inj i j p q b hp hq ho ho'
  · intro i p b hp ho
    by_cases e1 : id = i
    · subst e1
      rw [getElem?_set_eq' hx] at hp
      obtain rfl := Option.some.inj hp
      rcases hown b ho with h1 | h1
      · exact h.own id x b hx h1
      · exact .inr (Nat.le_trans h.fr.size h1)
    · rw [getElem?_set_ne' e1] at hp
      exact h.own i p b hp ho
  · intro i p b hp ho
    by_cases e1 : id = i
    · subst e1
      rw [getElem?_set_eq' hx] at hp
      obtain rfl := Option.some.inj hp
      rcases hown b ho with h1 | h1
      · exact h.nx id x b hx h1
      · intro hX
        have := h.xl b hX
        omega
    · rw [getElem?_set_ne' e1] at hp
      exact h.nx i p b hp ho
  · refine h.fr.trans (G := fun b => x.owns b) ⟨hsize, hsame, hsz, hos, htape, hout⟩ (fun b hb ho => ?_)
    rcases h.own id x b hx ho with h1 | h1
    · exact h1
    · omega

theorem SimM.ext_push {y : LB} (hsize : w.heap.size ≤ w'.heap.size)
    (hsame : ∀ b, b < w.heap.size → w'.heap[b]? = w.heap[b]?) (hown : ∀ b, y.owns b → w.heap.size ≤ b) : Ext w L (ZZ X0 L) w' (L ++ [y]) (ZZ X0 (L ++ [y])) where
  size := hsize
  same b hb _ := hsame b hb
  sz b hb := by simp only [szOf, hsame b hb]
  z b hb := by
    rcases hb with hb | ⟨i, x, hx, ho⟩
    · exact .inl (.inl hb)
    · rw [List.getElem?_append] at hx
      split at hx
      · exact .inl (.inr ⟨i, x, hx, ho⟩)
      · cases hi : i - L.length with
        | zero =>
          rw [hi] at hx
          obtain rfl := Option.some.inj hx
          exact .inr (hown b ho)
        | succ j => rw [hi] at hx; simp at hx
  le i z hz := by
    have hi : i < L.length := by
      rcases Nat.lt_or_ge i L.length with h1 | h1
      · exact h1
      · simp [List.getElem?_eq_none h1] at hz
    exact ⟨z, by rw [List.getElem?_append_left hi]; exact hz, .refl z⟩

theorem SimM.lt (h : SimM w0 F0 X0 m L w) {j : Nat} {z : LB} {b : Nat} (hz : L[j]? = some z) (ho : z.owns b) : b < w.heap.size := by
  have hB := h.blk j z hz
  cases z with
  | dead => exact ho.elim
  | cell c =>
    obtain rfl : c = b := ho
    cases hβ : bnth m j with
    | dead => rw [hβ] at hB; exact hB.elim
    | row v k l => rw [hβ] at hB; exact hB.elim
    | cells cs =>
      rw [hβ] at hB
      obtain ⟨C, t, h1, _⟩ := hB
      exact (Array.getElem?_eq_some_iff.1 h1).1
  | row c v n => cases c with
    | none => exact ho.elim
    | some c =>
      obtain rfl : c = b := ho
      cases hβ : bnth m j with
      | dead => rw [hβ] at hB; exact hB.elim
      | cells cs => rw [hβ] at hB; exact hB.elim
      | row v k l =>
        rw [hβ] at hB
        obtain ⟨_, _, _, C, t, z, h1, _⟩ := hB
        exact (Array.getElem?_eq_some_iff.1 h1).1

theorem SimM.push (h : SimM w0 F0 X0 m L w) {y : LB} {β : Blk} (hsize : w.heap.size ≤ w'.heap.size)
    (hsame : ∀ b, b < w.heap.size → w'.heap[b]? = w.heap[b]?) (hown : ∀ b, y.owns b → w.heap.size ≤ b)
    (hos : w'.os = w.os) (htape : w'.tape = w.tape) (hout : w'.output = w.output)
    (hb : BlkRep w' (L ++ [y]) (ZZ X0 (L ++ [y])) y β) : SimM w0 F0 X0 (m ++ [β]) (L ++ [y]) w' := by
  have e := SimM.ext_push (L := L) (X0 := X0) hsize hsame hown
  have look : ∀ (i : Nat) (x : LB), (L ++ [y])[i]? = some x → (i < L.length ∧ L[i]? = some x) ∨ (i = L.length ∧ x = y) := by
    intro i x hx
    rw [List.getElem?_append] at hx
    split at hx
    · rename_i hi
      exact .inl ⟨hi, hx⟩
    · rename_i hi
      cases hj : i - L.length with
      | zero =>
        rw [hj] at hx
        obtain rfl := Option.some.inj hx
        exact .inr ⟨by omega, rfl⟩
      | succ j => rw [hj] at hx; simp at hx
  refine ⟨by simp [h.ll], ?_, ?_, ?_, ?_, ?_, fun b hb => Nat.lt_of_lt_of_le (h.xl b hb) hsize⟩
  · intro i x hx
    rcases look i x hx with ⟨hi, hx⟩ | ⟨rfl, rfl⟩
    · rw [bnth_app_left (by rw [← h.ll]; exact hi)]
      exact (h.blk i x hx).ext e (fun b ho => hsame b (h.lt hx ho))
    · rw [h.ll, bnth_app_new]
      exact hb
  · intro i j p q b hp hq ho ho'
    rcases look i p hp with ⟨hi, hp2⟩ | ⟨hi, rfl⟩
    · rcases look j q hq with ⟨hj, hq2⟩ | ⟨hj, rfl⟩
      · exact h.inj i j p q b hp2 hq2 ho ho'
      · have := h.lt hp2 ho
        have := hown b ho'
        omega
    · rcases look j q hq with ⟨hj, hq2⟩ | ⟨hj, rfl⟩
      · have := h.lt hq2 ho'
        have := hown b ho
        omega
      · omega
  · intro i p b hp ho
    rcases look i p hp with ⟨hi, hp⟩ | ⟨rfl, rfl⟩
    · exact h.own i p b hp ho
    · exact .inr (Nat.le_trans h.fr.size (hown b ho))
  · intro i p b hp ho
    rcases look i p hp with ⟨hi, hp⟩ | ⟨rfl, rfl⟩
    · exact h.nx i p b hp ho
    · intro hX
      have := h.xl b hX
      have := hown b ho
      omega
  · exact h.fr.trans (G := fun _ => False) ⟨hsize, fun b hb _ => hsame b hb, fun b hb => by simp only [szOf, hsame b hb], hos, htape, hout⟩ (fun _ _ h => h.elim)

end turned

/-- A state of the small machine stands for one of the model's. -/
structure Sim (w0 : World) (F0 X0 : Nat → Prop) (s : St) (L : List LB) (a : Act) (w : World) : Prop where
  mem : SimM w0 F0 X0 s.m L w
  tl : a.tmps.size = s.t.length
  tv : ∀ i, i < s.t.length → RepV w L (ZZ X0 L) (nth s.t i) (a.tmps.getD i Go.undef)
  df : a.defers = []

end Go.Proofs.Ytnghlmogcbmlfaa
