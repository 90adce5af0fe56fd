/- Words for walking: conditions that hold, places of a list that are read, whole numbers in their bounds. -/
import Derived.Test.YtnghlmogcbmlfaaAmZa
namespace Go.Proofs.Ytnghlmogcbmlfaa
set_option linter.unusedVariables false
set_option linter.unusedSimpArgs false
set_option linter.unnecessarySimpa false

/-- Something, if a condition holds. -/
def guardP (c : Prop) [Decidable c] {α : Type} (x : Option α) : Option α := if c then x else none

theorem toG {c : Prop} [inst : Decidable c] {α : Type} (x : Option α) : (@ite (Option α) c inst x none) = guardP c x := rfl

theorem guardP_pos {c : Prop} [Decidable c] {α : Type} {x : Option α} (h : c) : guardP c x = x := if_pos h

theorem guardP_T {α : Type} {x : Option α} {i : Decidable True} : @guardP True i α x = x := if_pos trivial

theorem iteN {c : Prop} [Decidable c] {α : Type} {x : Option α} (h : ¬ c) : (if c then none else x) = x := if_neg h

/-- What stands at a place of a list. -/
def rd {α : Type} [Inhabited α] (l : List α) (n : Int) : α := l.getD n.toNat default

theorem look {α : Type} [Inhabited α] {l : List α} {n : Int} (h0 : 0 ≤ n) (h1 : n < l.length) : l[n.toNat]? = some (rd l n) := by
  unfold rd
  rw [List.getD_eq_getElem?_getD, List.getElem?_eq_getElem (by omega)]
  rfl

theorem look0 {α : Type} [Inhabited α] {l : List α} {n : Nat} (h1 : n < l.length) : l[n]? = some (rd l n) := by
  have := look (l := l) (n := (n : Int)) (by omega) (by omega)
  simpa using this

theorem rd_toNat {α : Type} [Inhabited α] {l : List α} {n : Int} : rd l ((n.toNat : Nat) : Int) = rd l n := by
  unfold rd
  rw [Int.toNat_natCast]

theorem rd_eq {α : Type} [Inhabited α] {l : List α} {n : Int} (h0 : 0 ≤ n) (h1 : n < l.length) : rd l n = l[n.toNat]'(by omega) := by
  unfold rd
  rw [List.getD_eq_getElem?_getD, List.getElem?_eq_getElem (by omega)]
  rfl

theorem rd_of {α : Type} [Inhabited α] {l : List α} {n : Int} {x : α} (h : l[n.toNat]? = some x) : rd l n = x := by
  unfold rd
  rw [List.getD_eq_getElem?_getD, h]
  rfl

theorem rd_mem {α : Type} [Inhabited α] {l : List α} {n : Int} (h0 : 0 ≤ n) (h1 : n < l.length) : rd l n ∈ l := by
  rw [rd_eq h0 h1]
  exact List.getElem_mem _

theorem succ_toNat {n : Int} (h0 : 0 ≤ n) : (n + 1).toNat = n.toNat + 1 := by omega

theorem take_rd {α : Type} [Inhabited α] {l : List α} {n : Int} (h0 : 0 ≤ n) (h1 : n < l.length) : l.take (n + 1).toNat = l.take n.toNat ++ [rd l n] := by
  rw [succ_toNat h0, rd_eq h0 h1, List.take_add_one, List.getElem?_eq_getElem (by omega)]
  rfl

theorem drop_rd {α : Type} [Inhabited α] {l : List α} {n : Int} (h0 : 0 ≤ n) (h1 : n < l.length) : l.drop n.toNat = rd l n :: l.drop (n + 1).toNat := by
  rw [succ_toNat h0, rd_eq h0 h1]
  exact List.drop_eq_getElem_cons (by omega)

theorem take_all {α : Type} {l : List α} {n : Int} (h : (l.length : Int) ≤ n) : l.take n.toNat = l := List.take_of_length_le (by omega)

theorem drop_all {α : Type} {l : List α} {n : Int} (h : (l.length : Int) ≤ n) : l.drop n.toNat = [] := List.drop_of_length_le (by omega)

theorem wrap64 {n : Int} (h0 : -9223372036854775808 ≤ n) (h1 : n ≤ 9223372036854775807) : IntKind.i64.wrap n = n := by
  unfold IntKind.wrap
  simp [IntKind.bits, IntKind.signed]
  omega

section
variable {e : Nat} {C : Tab} {Q : Ex → St → Prop} {ks : List Kn} {s : St}

theorem kon_bin {d : Option Nat} {op : BinOp} {x y : O} {r : List Ins} (h : ∀ R : St → Prop, (∀ s, kon e C Q (.code (.reg r) :: ks) .normal s → R s) → evI C (.bin op x y) s fun v m => R (s.put d v m)) : kon e C Q (.code (.reg (⟨d, .bin op x y, none⟩ :: r)) :: ks) .normal s :=
  h _ (fun _ h => h)

theorem kon_conv {d : Option Nat} {k : IntKind} {x : O} {r : List Ins} (h : ∀ R : St → Prop, (∀ s, kon e C Q (.code (.reg r) :: ks) .normal s → R s) → evI C (.conv k x) s fun v m => R (s.put d v m)) : kon e C Q (.code (.reg (⟨d, .conv k x, none⟩ :: r)) :: ks) .normal s :=
  h _ (fun _ h => h)

/-- A function value is called. -/
theorem kon_callv {d : Option Nat} {x : O} {xs : List O} {r : List Ins} {f : FuncId} {caps : List AV} {v : AV} {m' : List Blk} (hx : x.get s = .fn f caps) (hc : (match C f with | some c => callA c (xs.map (O.get s) ++ caps) s.m | none => none) = some (v, m'))
    (h : kon e C Q (.code (.reg r) :: ks) .normal (s.put d v m')) : kon e C Q (.code (.reg (⟨d, .callv x xs, none⟩ :: r)) :: ks) .normal s := by
  show evI C (.callv x xs) s fun v m => evR C (kon e C Q ks .normal) r (s.put d v m)
  simp only [evI, stepI, hx]
  cases hf : C f with
  | none => simp [hf] at hc
  | some c =>
    simp only [hf] at hc ⊢
    rw [hc]
    exact h

/-- An operation under a guard, where it is done. -/
theorem kon_g_run {d : Option Nat} {o : AI} {r : List Ins} {j : Nat} {w : Bool} (hj : nth s.t j = .bool w) (h : kon e C Q (.code (.reg (⟨d, o, none⟩ :: r)) :: ks) .normal s) : kon e C Q (.code (.reg (⟨d, o, some (j, w)⟩ :: r)) :: ks) .normal s := by
  simp only [kon, awp, evR, hj] at h ⊢
  cases w <;> exact h

theorem kon_g_skip {d : Option Nat} {o : AI} {r : List Ins} {j : Nat} {w : Bool} (hj : nth s.t j = .bool (!w)) (h : kon e C Q (.code (.reg r) :: ks) .normal (s.put d .undef s.m)) : kon e C Q (.code (.reg (⟨d, o, some (j, w)⟩ :: r)) :: ks) .normal s := by
  simp only [kon, awp, evR, hj] at h ⊢
  cases w <;> exact h

theorem kon_g_undef {d : Option Nat} {o : AI} {r : List Ins} {j : Nat} {w : Bool} (hj : nth s.t j = .undef) (h : kon e C Q (.code (.reg r) :: ks) .normal (s.put d .undef s.m)) : kon e C Q (.code (.reg (⟨d, o, some (j, w)⟩ :: r)) :: ks) .normal s := by
  simp only [kon, awp, evR, hj] at h ⊢
  exact h

end

theorem most_eq : most = 1099511627776 := rfl
theorem maxLen_eq : maxLen = 9223372036854775807 := rfl

theorem drop_set {α : Type} {l : List α} {n : Nat} {x : α} (h : n < l.length) : l.take n ++ x :: l.drop (n + 1) = l.set n x := by
  rw [List.set_eq_take_append_cons_drop, if_pos h]

/-- A row that is filled from the front on. -/
theorem fill_rd {α : Type} {l o : List α} {n : Int} {x : α} (h0 : 0 ≤ n) (h1 : n < o.length) (hl : l.length = n) : (l ++ o.drop n.toNat).set n.toNat x = l ++ [x] ++ o.drop (n + 1).toNat := by
  have e : n.toNat = l.length := by omega
  rw [succ_toNat h0, e, List.set_append_right _ _ (Nat.le_refl _), Nat.sub_self, List.append_assoc]
  congr 1
  rw [List.drop_eq_getElem_cons (by omega)]
  rfl

theorem zip_rd {α β γ : Type} [Inhabited α] [Inhabited β] {f : α → β → γ} {a : List α} {b : List β} {i : Int} (h0 : 0 ≤ i) (ha : i < a.length) (hb : i < b.length) : List.zipWith f (a.take (i + 1).toNat) (b.take (i + 1).toNat) = List.zipWith f (a.take i.toNat) (b.take i.toNat) ++ [f (rd a i) (rd b i)] := by
  rw [take_rd h0 ha, take_rd h0 hb, List.zipWith_append]
  · rfl
  · simp; omega

theorem rd_set {α : Type} [Inhabited α] {l : List α} {n : Int} {x : α} (h0 : 0 ≤ n) (h1 : n < l.length) : rd (l.set n.toNat x) n = x := by
  rw [rd_eq h0 (by simpa using h1)]
  simp

theorem eta_fact (x : Fact) : (⟨x.node, x.inc, x.status⟩ : Fact) = x := rfl
theorem eta_rumor (x : Rumor) : (⟨⟨x.fact.node, x.fact.inc, x.fact.status⟩, x.sent⟩ : Rumor) = x := rfl
theorem eta_doubt (x : Doubt) : (⟨x.node, x.inc, x.due⟩ : Doubt) = x := rfl
theorem eta_item (x : Item) : (⟨x.kind, x.at_, x.a, x.b⟩ : Item) = x := rfl
theorem eta_rec (x : Rec) : (⟨x.at_, x.node, x.kind, x.a, x.b, x.c⟩ : Rec) = x := rfl
theorem eta_due (x : Due) : (⟨x.at_, x.seq, x.node, x.text⟩ : Due) = x := rfl
attribute [go_sem] eta_fact eta_rumor eta_doubt eta_item eta_rec eta_due

theorem setB_len (m : List Blk) (i : Nat) (x : Blk) : (setB m i x).length = m.length := length_setB

end Go.Proofs.Ytnghlmogcbmlfaa
