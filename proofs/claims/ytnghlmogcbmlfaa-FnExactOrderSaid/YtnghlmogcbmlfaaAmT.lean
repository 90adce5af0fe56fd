/- Values on their way: what a call is handed, and what it gives back. -/
import Derived.Test.YtnghlmogcbmlfaaAmS
namespace Go.Proofs.Ytnghlmogcbmlfaa
set_option linter.unusedVariables false
set_option linter.unusedSimpArgs false

def blkOf : LB → Option Nat
  | .cell b => some b
  | .row (some b) _ _ => some b
  | _ => none

theorem owns_iff {x : LB} {b : Nat} : x.owns b ↔ blkOf x = some b := by
  cases x with
  | dead => simp [LB.owns, blkOf]
  | cell c => simp [LB.owns, blkOf]
  | row c v n => cases c <;> simp [LB.owns, blkOf]

/-- The block behind a number. -/
def bOf (L : List LB) (i : Nat) : Option Nat := (L[i]?).bind blkOf

/-- A row on its way. -/
def Row (w : World) (Z : Nat → Prop) (k : Kd) (l : List (T k)) (V : Value) (b : Nat) : Prop :=
  ∃ cap C t z, V = .slice (some ⟨b, 0, none⟩) l.length cap ∧ 0 < cap ∧ cap ≤ maxLen ∧ l.length ≤ cap ∧ w.heap[b]? = some (.cells C t z) ∧ NoMark z C.size ∧ cap * wid k ≤ C.size ∧
    ∀ i x, l[i]? = some x → ∀ j, j < wid k → RepV w [] Z (nth (enc k x) j) (C.getD (i * wid k + j) Go.undef)

/-- Values on their way, and the blocks that go with them. -/
inductive RepL (w : World) (Z : Nat → Prop) : List AV → List Value → List Nat → Prop
  | nil : RepL w Z [] [] []
  | plain {v : AV} {V : Value} {r : List AV} {R : List Value} {F : List Nat} (h : RepV w [] Z v V) (t : RepL w Z r R F) : RepL w Z (v :: r) (V :: R) F
  | own {k : Kd} {l : List (T k)} {V : Value} {b : Nat} {r : List AV} {R : List Value} {F : List Nat} (h : Row w Z k l V b) (t : RepL w Z r R F) : RepL w Z (.own k l :: r) (V :: R) (b :: F)
  | own0 {k : Kd} {p : Option Addr} {r : List AV} {R : List Value} {F : List Nat} (t : RepL w Z r R F) : RepL w Z (.own k [] :: r) (.slice p 0 0 :: R) F
  | mrow {k : Kd} {l : List (T k)} {V : Value} {b : Nat} {r : List AV} {R : List Value} {F : List Nat} (h : Row w Z k l V b) (t : RepL w Z r R F) : RepL w Z (.mrow k l :: r) (V :: R) (b :: F)
  | mrow0 {k : Kd} {p : Option Addr} {r : List AV} {R : List Value} {F : List Nat} (t : RepL w Z r R F) : RepL w Z (.mrow k [] :: r) (.slice p 0 0 :: R) F
  | box {cs : List AV} {b : Nat} {C : Array Value} {t : TypeId} {r : List AV} {R : List Value} {F G : List Nat} (h : w.heap[b]? = some (.cells C t (0, 0))) (hc : RepL w Z cs C.toList F) (ht : RepL w Z r R G) :
      RepL w Z (.box cs :: r) (.pointer (some ⟨b, 0, none⟩) :: R) (b :: (F ++ G))
  | agg {cs : List AV} {C : Array Value} {r : List AV} {R : List Value} {F G : List Nat} (hc : RepL w Z cs C.toList F) (ht : RepL w Z r R G) : RepL w Z (.agg cs :: r) (.agg C :: R) (F ++ G)
  | tup {cs : List AV} {C : Array Value} {r : List AV} {R : List Value} {F G : List Nat} (hc : RepL w Z cs C.toList F) (ht : RepL w Z r R G) : RepL w Z (.tup cs :: r) (.tuple C :: R) (F ++ G)

theorem RepV.weaken {w : World} {Z Z2 : Nat → Prop} {L : List LB} {v : AV} {V : Value} (h : RepV w [] Z v V) (hz : ∀ b, Z2 b → Z b) : RepV w L Z2 v V :=
  h.ext ⟨Nat.le_refl _, fun _ _ _ => rfl, fun _ _ => rfl, fun b hb => .inl (hz b hb), fun i x hx => by simp at hx⟩

theorem RepV.append {w : World} {Z : Nat → Prop} {L L2 : List LB} {v : AV} {V : Value} (h : RepV w L Z v V) : RepV w (L ++ L2) Z v V :=
  h.ext ⟨Nat.le_refl _, fun _ _ _ => rfl, fun _ _ => rfl, fun b hb => .inl hb, fun i x hx => ⟨x, by rw [List.getElem?_append_left (List.getElem?_eq_some_iff.1 hx).1]; exact hx, .refl x⟩⟩

theorem Row.mono {w : World} {Z Z2 : Nat → Prop} {k : Kd} {l : List (T k)} {V : Value} {b : Nat} (h : Row w Z k l V b) (hz : ∀ b, Z2 b → Z b) : Row w Z2 k l V b := by
  obtain ⟨cap, C, t, z, h1, h0, h2, h3, h4, h5, h6, h7⟩ := h
  exact ⟨cap, C, t, z, h1, h0, h2, h3, h4, h5, h6, fun i x hx j hj => (h7 i x hx j hj).weaken hz⟩

theorem RepL.mono {w : World} {Z Z2 : Nat → Prop} {as : List AV} {Vs : List Value} {F : List Nat} (h : RepL w Z as Vs F) (hz : ∀ b, Z2 b → Z b) : RepL w Z2 as Vs F := by
  induction h with
  | nil => exact .nil
  | plain h t ih => exact .plain (h.weaken hz) ih
  | own h t ih => exact .own (h.mono hz) ih
  | own0 t ih => exact .own0 ih
  | mrow h t ih => exact .mrow (h.mono hz) ih
  | mrow0 t ih => exact .mrow0 ih
  | box h hc ht i1 i2 => exact .box h i1 i2
  | agg hc ht i1 i2 => exact .agg i1 i2
  | tup hc ht i1 i2 => exact .tup i1 i2

theorem RepL.length {w : World} {Z : Nat → Prop} {as : List AV} {Vs : List Value} {F : List Nat} (h : RepL w Z as Vs F) : as.length = Vs.length := by
  induction h with
  | nil => rfl
  | plain h t ih => simp [ih]
  | own h t ih => simp [ih]
  | own0 t ih => simp [ih]
  | mrow h t ih => simp [ih]
  | mrow0 t ih => simp [ih]
  | box h hc ht i1 i2 => simp [i2]
  | agg hc ht i1 i2 => simp [i2]
  | tup hc ht i1 i2 => simp [i2]

/-- A value without a name of memory. -/
def cleanB : AV → Bool
  | .undef | .junk | .bool _ | .int _ _ | .str _ | .nil | .err _ | .sl _ _ => true
  | _ => false

theorem enc_cleanAll (k : Kd) (x : T k) : (enc k x).all cleanB = true := by cases k <;> rfl

theorem enc_clean (k : Kd) (x : T k) (j : Nat) (hj : j < wid k) : cleanB (nth (enc k x) j) = true := by
  have hl : j < (enc k x).length := by rw [enc_length]; exact hj
  rw [nth_eq hl]
  exact List.all_eq_true.1 (enc_cleanAll k x) _ (List.getElem_mem hl)

theorem RepV.strip {w : World} {Z Z2 : Nat → Prop} {L : List LB} {v : AV} {V : Value} (h : RepV w L Z v V) (hc : cleanB v = true) (hz : ∀ b, Z2 b → Z b) : RepV w [] Z2 v V := by
  induction h with
  | undef => exact .undef
  | junk V h => exact .junk V h
  | bool b => exact .bool b
  | int k n h => exact .int k n h
  | str s h => exact .str s h
  | nil a => exact .nil a
  | err0 => exact .err0
  | err1 t x => exact .err1 t x
  | sl k l a cap b off C hcap hlen ha hC hr ih =>
    exact .sl k l a cap b off C hcap hlen (fun hl => ⟨(ha hl).1, fun h => (ha hl).2 (hz _ h)⟩) hC (fun i x hx j hj => ih i x hx j hj (enc_clean k x j hj))
  | _ => simp [cleanB] at hc

theorem killAll_bnth : ∀ (ids : List Nat) (m : List Blk) (i : Nat), bnth (killAll m ids) i = if i ∈ ids then .dead else bnth m i := by
  intro ids
  induction ids with
  | nil => intro m i; simp [killAll]
  | cons j r ih =>
    intro m i
    rw [killAll, ih]
    by_cases hr : i ∈ r
    · simp [hr]
    · by_cases hj : i = j
      · subst hj
        simp only [hr, if_false, List.mem_cons, true_or, if_true]
        by_cases hl : i < m.length
        · exact bnth_setB_same hl
        · exact bnth_ge (by rw [length_setB]; omega)
      · simp only [hr, if_false, List.mem_cons, hj, or_self]
        exact bnth_setB_other (fun e => hj e.symm)

theorem killAll_length : ∀ (ids : List Nat) (m : List Blk), (killAll m ids).length = m.length := by
  intro ids
  induction ids with
  | nil => intro m; rfl
  | cons j r ih => intro m; rw [killAll, ih, length_setB]

theorem killAll_some {ids : List Nat} {m : List Blk} {i : Nat} {β : Blk} (h : bnth (killAll m ids) i = β) (hβ : β ≠ .dead) : i ∉ ids ∧ bnth m i = β := by
  rw [killAll_bnth] at h
  split at h
  · exact absurd h.symm hβ
  · exact ⟨by assumption, h⟩

/-- Each block that is named has a property. -/
def Nm (N : Nat → Prop) (m : List Blk) (vs : List AV) : Prop := (∀ i, N i) ∨ ∃ d is, idsOf m d vs = some is ∧ ∀ i ∈ is, N i

section nm
variable {N : Nat → Prop} {m : List Blk} {r : List AV}

theorem ids_cons {d : Nat} {v : AV} {js : List Nat} (h : idsOf m (d + 1) (v :: r) = some js) : ∃ is hs, idsOf m d r = some is ∧ js = hs ++ is ∧ idsOf m (d + 1) [v] = some hs := by
  cases d with
  | zero => simp [idsOf] at h
  | succ d =>
    have e0 : idsOf m (d + 1) [] = some [] := rfl
    rw [idsOf] at h
    cases hr : idsOf m (d + 1) r with
    | none => simp [hr] at h
    | some q =>
      refine ⟨q, ?_⟩
      rw [idsOf]
      simp only [hr] at h
      simp only [e0]
      cases v <;> simp only [Option.some.injEq] at h ⊢
      case ptr i off =>
        cases hm : bnth m i with
        | dead => simp only [hm, Option.some.injEq] at h ⊢; exact ⟨[i], trivial, by simp [← h], rfl⟩
        | row v k l => simp only [hm, Option.some.injEq] at h ⊢; exact ⟨[i], trivial, by simp [← h], rfl⟩
        | cells cs =>
          simp only [hm] at h ⊢
          cases hc : idsOf m (d + 1) cs with
          | none => simp [hc] at h
          | some p =>
            simp only [hc, Option.some.injEq] at h ⊢
            exact ⟨i :: p, trivial, by simp [← h], by simp⟩
      case agg cs =>
        cases hc : idsOf m (d + 1) cs with
        | none => simp [hc] at h
        | some p => simp only [hc, Option.some.injEq] at h ⊢; exact ⟨p, trivial, by simp [← h], by simp⟩
      case tup cs =>
        cases hc : idsOf m (d + 1) cs with
        | none => simp [hc] at h
        | some p => simp only [hc, Option.some.injEq] at h ⊢; exact ⟨p, trivial, by simp [← h], by simp⟩
      case fn f cs =>
        cases hc : idsOf m (d + 1) cs with
        | none => simp [hc] at h
        | some p => simp only [hc, Option.some.injEq] at h ⊢; exact ⟨p, trivial, by simp [← h], by simp⟩
      case ip cs off =>
        cases hc : idsOf m (d + 1) cs with
        | none => simp [hc] at h
        | some p => simp only [hc, Option.some.injEq] at h ⊢; exact ⟨p, trivial, by simp [← h], by simp⟩
      case ms i _ _ _ => exact ⟨[i], trivial, by simp [← h], rfl⟩
      case rp i _ _ _ => exact ⟨[i], trivial, by simp [← h], rfl⟩
      all_goals exact ⟨[], trivial, by simp [← h], rfl⟩

theorem nm_split {v : AV} (h : Nm N m (v :: r)) : (∀ i, N i) ∨ ∃ d is, idsOf m d r = some is ∧ (∀ i ∈ is, N i) ∧ ∃ js, idsOf m (d + 1) (v :: r) = some js ∧ ∀ i ∈ js, N i := by
  rcases h with h | ⟨d, is, h, hn⟩
  · exact .inl h
  · right
    cases d with
    | zero => simp [idsOf] at h
    | succ d =>
      obtain ⟨q, hs, h1, rfl, h3⟩ := ids_cons h
      exact ⟨d, q, h1, fun i hi => hn i (by simp [hi]), _, h, hn⟩

theorem Nm.head {v : AV} (h : Nm N m (v :: r)) : Nm N m [v] := by
  rcases h with h | ⟨d, is, h, hn⟩
  · exact .inl h
  · cases d with
    | zero => simp [idsOf] at h
    | succ d =>
      obtain ⟨q, hs, h1, rfl, h3⟩ := ids_cons h
      exact .inr ⟨d + 1, hs, h3, fun i hi => hn i (by simp [hi])⟩

theorem Nm.tail {v : AV} (h : Nm N m (v :: r)) : Nm N m r := by
  rcases nm_split h with h | ⟨d, is, h1, h2, _⟩
  · exact .inl h
  · exact .inr ⟨d, is, h1, h2⟩

theorem Nm.ms {i v lo len : Nat} (h : Nm N m (.ms i v lo len :: r)) : N i := by
  rcases nm_split h with h | ⟨d, is, h1, h2, js, h3, h4⟩
  · exact h i
  · simp only [idsOf, h1, Option.some.injEq] at h3
    exact h4 i (by rw [← h3]; simp)

theorem Nm.rp {i v lo len : Nat} (h : Nm N m (.rp i v lo len :: r)) : N i := by
  rcases nm_split h with h | ⟨d, is, h1, h2, js, h3, h4⟩
  · exact h i
  · simp only [idsOf, h1, Option.some.injEq] at h3
    exact h4 i (by rw [← h3]; simp)

theorem Nm.ptr {i off : Nat} (h : Nm N m (.ptr i off :: r)) : N i := by
  rcases nm_split h with h | ⟨d, is, h1, h2, js, h3, h4⟩
  · exact h i
  · simp only [idsOf, h1] at h3
    split at h3
    · split at h3
      · simp only [Option.some.injEq] at h3
        exact h4 i (by rw [← h3]; simp)
      · simp at h3
    · simp only [Option.some.injEq] at h3
      exact h4 i (by rw [← h3]; simp)

theorem Nm.cells {i off : Nat} {cs : List AV} (h : Nm N m (.ptr i off :: r)) (hm : bnth m i = .cells cs) : Nm N m cs := by
  rcases nm_split h with h | ⟨d, is, h1, h2, js, h3, h4⟩
  · exact .inl h
  · simp only [idsOf, h1, hm] at h3
    cases hc : idsOf m d cs with
    | none => simp [hc] at h3
    | some q =>
      simp only [hc, Option.some.injEq] at h3
      exact .inr ⟨d, q, hc, fun i hi => h4 i (by rw [← h3]; simp [hi])⟩

theorem Nm.agg {cs : List AV} (h : Nm N m (.agg cs :: r)) : Nm N m cs := by
  rcases nm_split h with h | ⟨d, is, h1, h2, js, h3, h4⟩
  · exact .inl h
  · simp only [idsOf, h1] at h3
    cases hc : idsOf m d cs with
    | none => simp [hc] at h3
    | some q =>
      simp only [hc, Option.some.injEq] at h3
      exact .inr ⟨d, q, hc, fun i hi => h4 i (by rw [← h3]; simp [hi])⟩

theorem Nm.tup {cs : List AV} (h : Nm N m (.tup cs :: r)) : Nm N m cs := by
  rcases nm_split h with h | ⟨d, is, h1, h2, js, h3, h4⟩
  · exact .inl h
  · simp only [idsOf, h1] at h3
    cases hc : idsOf m d cs with
    | none => simp [hc] at h3
    | some q =>
      simp only [hc, Option.some.injEq] at h3
      exact .inr ⟨d, q, hc, fun i hi => h4 i (by rw [← h3]; simp [hi])⟩

theorem Nm.fn {f : FuncId} {cs : List AV} (h : Nm N m (.fn f cs :: r)) : Nm N m cs := by
  rcases nm_split h with h | ⟨d, is, h1, h2, js, h3, h4⟩
  · exact .inl h
  · simp only [idsOf, h1] at h3
    cases hc : idsOf m d cs with
    | none => simp [hc] at h3
    | some q =>
      simp only [hc, Option.some.injEq] at h3
      exact .inr ⟨d, q, hc, fun i hi => h4 i (by rw [← h3]; simp [hi])⟩

theorem Nm.ip {cs : List AV} {off : Nat} (h : Nm N m (.ip cs off :: r)) : Nm N m cs := by
  rcases nm_split h with h | ⟨d, is, h1, h2, js, h3, h4⟩
  · exact .inl h
  · simp only [idsOf, h1] at h3
    cases hc : idsOf m d cs with
    | none => simp [hc] at h3
    | some q =>
      simp only [hc, Option.some.injEq] at h3
      exact .inr ⟨d, q, hc, fun i hi => h4 i (by rw [← h3]; simp [hi])⟩

end nm

section lend
variable {P : Program} {w0 : World} {F0 X0 : Nat → Prop} {m : List Blk} {L : List LB} {w : World} {ids : List Nat} {N Zc : Nat → Prop}

/-- Whose a list's cells are. -/
theorem as_owner (hs : SimM w0 F0 X0 m L w) {k : Kd} {v : AV} {V : Value} {l : List (T k)} {p : Option Addr} {cap b off : Nat} {C : Nat → Value} (hv : RepV w L (ZZ X0 L) v V) (ha : asList k m v = some l) (hread : Reads w L (ZZ X0 L) k l V p cap b off C) :
    l.length ≤ cap ∧ (l ≠ [] → ¬ ZZ X0 L b ∨ ∃ id v0 lo len x, v = .ms id v0 lo len ∧ bnth m id ≠ .dead ∧ L[id]? = some x ∧ x.owns b) := by
  cases v <;> simp only [asList] at ha <;> try (simp at ha; done)
  case nil =>
    simp only [Option.some.injEq] at ha
    subst ha
    exact ⟨Nat.zero_le _, fun h => absurd rfl h⟩
  case sl k' l' =>
    obtain ⟨ek, el⟩ := castK_some ha
    subst ek
    obtain rfl : l' = l := el.symm
    obtain ⟨p', cap', b', off', C', e, h1, h2, h3, h4, h5⟩ := hv.sl_inv
    have e2 := hread.val.symm.trans e
    simp only [Value.slice.injEq] at e2
    refine ⟨by omega, fun hl => .inl ?_⟩
    have hz := (h3 hl)
    have e3 := e2.1
    rw [hread.at_ hl, hz.1] at e3
    simp only [Option.some.injEq, Addr.mk.injEq] at e3
    rw [e3.1]
    exact hz.2
  case ms id v0 lo len =>
    cases hm : bnth m id with
    | dead => simp [hm] at ha
    | cells cs => simp [hm] at ha
    | row v' k' l' =>
      rcases hv.ms_inv with ⟨b', n', cap', ex, hcap, hL⟩ | ⟨n', A, _, hlen, ex, hL⟩ | ⟨b', off', n', ⟨hlen, hlo⟩, ex, hL⟩
      · have e2 := hread.val.symm.trans ex
        simp only [Value.slice.injEq] at e2
        refine ⟨by omega, fun hl => .inr ⟨id, v0, lo, len, ?_⟩⟩
        have e3 := e2.1
        rw [hread.at_ hl] at e3
        simp only [Option.some.injEq, Addr.mk.injEq] at e3
        rcases hL with ⟨hL, _⟩ | ⟨z, hL, hg⟩
        · exact ⟨_, rfl, by rw [hm]; simp, hL, e3.1.symm⟩
        · exfalso
          have hne := blk_gone hs hL hg hm
          simp only [hm] at ha
          cases he : eqN v0 v' with
          | false => simp [he] at ha
          | true => exact hne (eqN_iff.1 he)
      · have e2 := hread.val.symm.trans ex
        simp only [Value.slice.injEq] at e2
        exact ⟨by omega, fun hl => absurd (List.length_eq_zero_iff.1 (by omega)) hl⟩
      · have e2 := hread.val.symm.trans ex
        simp only [Value.slice.injEq] at e2
        exact ⟨by omega, fun hl => absurd (List.length_eq_zero_iff.1 (by omega)) hl⟩

/-- A list that is only read. -/
theorem sl_sound (hs : SimM w0 F0 X0 m L w) (ha : ∀ b, Zc b → ZZ X0 L b) (hb : ∀ id x b, id ∉ ids → N id → L[id]? = some x → x.owns b → ¬ Zc b) {k : Kd} {v : AV} {V : Value} {l : List (T k)} (hv : RepV w L (ZZ X0 L) v V)
    (h : asList k m v = some l) (hid : ∀ id v0 lo len, v = .ms id v0 lo len → id ∉ ids ∧ N id) : RepV w [] Zc (.sl k l) V := by
  obtain ⟨p, cap, b, off, C, hread⟩ := as_read hs hv h
  obtain ⟨h1, h2⟩ := as_owner hs hv h hread
  rw [hread.val]
  refine .sl k l p cap b off C h1 hread.len (fun hl => ⟨hread.at_ hl, fun hz => ?_⟩) hread.cell (fun i x hx j hj => (hread.rep i x hx j hj).strip (enc_clean k x j hj) ha)
  rcases h2 hl with h2 | ⟨id, v0, lo, len, x, e, _, hL, ho⟩
  · exact h2 (ha b hz)
  · obtain ⟨h3, h4⟩ := hid _ _ _ _ e
    exact hb id x b h3 h4 hL ho hz

theorem castK_self (k : Kd) (l : List (T k)) : castK k k l = some l := by cases k <;> rfl

/-- In a memory of which a part is given up, a list is what it was. -/
theorem asList_kill {k : Kd} {v : AV} {l : List (T k)} (h : asList k (killAll m ids) v = some l) : asList k m v = some l ∧ ∀ id v0 lo len, v = .ms id v0 lo len → id ∉ ids := by
  cases v <;> simp only [asList] at h <;> try (simp at h; done)
  case nil => exact ⟨h, fun _ _ _ _ e => by cases e⟩
  case sl k' l' => exact ⟨h, fun _ _ _ _ e => by cases e⟩
  case ms id v0 lo len =>
    cases hm : bnth (killAll m ids) id with
    | dead => simp [hm] at h
    | cells cs => simp [hm] at h
    | row v' k' l' =>
      obtain ⟨h1, h2⟩ := killAll_some hm (by simp)
      refine ⟨?_, fun _ _ _ _ e => by cases e; exact h1⟩
      simp only [asList, h2]
      simpa only [hm] using h

theorem im_sound (hs : SimM w0 F0 X0 m L w) (ha : ∀ b, Zc b → ZZ X0 L b) (hb : ∀ id x b, id ∉ ids → N id → L[id]? = some x → x.owns b → ¬ Zc b) :
    ∀ (d : Nat) (vs as : List AV) (V : Nat → Value), im (killAll m ids) d vs = some as → Nm N m vs → (∀ j, j < vs.length → RepV w L (ZZ X0 L) (nth vs j) (V j)) → as.length = vs.length ∧ ∀ j, j < as.length → RepV w [] Zc (nth as j) (V j) := by
  intro d
  induction d with
  | zero => intro vs as V h; simp [im] at h
  | succ d ih =>
    intro vs as V h hn hr
    cases vs with
    | nil =>
      simp only [im, Option.some.injEq] at h
      subst h
      exact ⟨rfl, fun j hj => by simp at hj⟩
    | cons v r =>
      simp only [im] at h
      cases ht : im (killAll m ids) d r with
      | none => simp [ht] at h
      | some r' =>
        simp only [ht] at h
        obtain ⟨i1, i2⟩ := ih r r' (fun j => V (j + 1)) ht hn.tail (fun j hj => hr (j + 1) (by simpa using hj))
        have hv : RepV w L (ZZ X0 L) v (V 0) := hr 0 (by simp)
        have fin : ∀ u : AV, RepV w [] Zc u (V 0) → as = u :: r' → as.length = (v :: r).length ∧ ∀ j, j < as.length → RepV w [] Zc (nth as j) (V j) := by
          rintro u hu rfl
          refine ⟨by simp [i1], fun j hj => ?_⟩
          cases j with
          | zero => exact hu
          | succ j => exact i2 j (by simpa using hj)
        cases v <;> simp only [Option.some.injEq] at h <;> try (simp at h; done)
        case junk => exact fin _ (hv.strip rfl ha) h.symm
        case bool b => exact fin _ (hv.strip rfl ha) h.symm
        case int k n => exact fin _ (hv.strip rfl ha) h.symm
        case str s => exact fin _ (hv.strip rfl ha) h.symm
        case nil => exact fin _ (hv.strip rfl ha) h.symm
        case err b => exact fin _ (hv.strip rfl ha) h.symm
        case sl k l => exact fin _ (hv.strip rfl ha) h.symm
        case agg cs =>
          cases hc : im (killAll m ids) d cs with
          | none => simp [hc] at h
          | some cs' =>
            simp only [hc, Option.some.injEq] at h
            obtain ⟨Cs, e, hsz, hrr⟩ := hv.agg_inv
            obtain ⟨j1, j2⟩ := ih cs cs' (fun j => Cs.getD j Go.undef) hc hn.agg hrr
            exact fin _ (by rw [e]; exact .agg cs' Cs (by omega) j2) h.symm
        case ip cs off =>
          cases hc : im (killAll m ids) d cs with
          | none => simp [hc] at h
          | some cs' =>
            simp only [hc, Option.some.injEq] at h
            obtain ⟨b, o, C, e, hz, hbl, hC, hrr⟩ := hv.ip_inv
            obtain ⟨j1, j2⟩ := ih cs cs' C hc hn.ip hrr
            exact fin _ (by rw [e]; exact .ip cs' off b o C (fun h => hz (ha b h)) (fun j hj => hC j (by omega)) j2 hbl) h.symm
        case ptr id off =>
          cases hm : bnth (killAll m ids) id with
          | dead => simp [hm] at h
          | row v' k' l' => simp [hm] at h
          | cells cs =>
            simp only [hm] at h
            cases hc : im (killAll m ids) d cs with
            | none => simp [hc] at h
            | some cs' =>
              simp only [hc, Option.some.injEq] at h
              obtain ⟨k1, k2⟩ := killAll_some hm (by simp)
              obtain ⟨b, e, hL⟩ := hv.ptr_inv
              rcases hL with hL | hL
              · obtain ⟨C, t, hh, hsz, hrr⟩ := blk_cells hs hL k2
                obtain ⟨j1, j2⟩ := ih cs cs' (fun j => C.getD j Go.undef) hc (hn.cells k2) hrr
                have hbl : b < w.heap.size := hs.lt hL rfl
                refine fin (.ip cs' off) ?_ h.symm
                rw [e]
                have := RepV.ip (w := w) (L := []) (Z := Zc) cs' off b 0 (fun j => C.getD j Go.undef) (hb id _ b k1 hn.ptr hL rfl) (fun j hj => by rw [Nat.zero_add]; exact cellGet hh (by omega)) j2 hbl
                simpa using this
              · have := blk_dead hs hL k2
                simp at this
        case rp id v0 i off =>
          cases hm : bnth (killAll m ids) id with
          | dead => simp [hm] at h
          | cells cs => simp [hm] at h
          | row v' k' l' =>
            simp only [hm] at h
            cases he : eqN v0 v' with
            | false => simp [he] at h
            | true =>
              obtain rfl := eqN_iff.1 he
              simp only [he] at h
              cases hx : l'[i]? with
              | none => simp [hx] at h
              | some x =>
                simp only [hx, Option.some.injEq] at h
                obtain ⟨k1, k2⟩ := killAll_some hm (by simp)
                obtain ⟨b, n, e, hL⟩ := hv.rp_inv
                rcases hL with hL | ⟨z, hL, hg⟩
                · obtain ⟨_, rfl, _, C, t, z, hh, hnm, hsz, hrr⟩ := blk_row hs hL k2
                  refine fin (.ip (enc k' x) off) ?_ h.symm
                  rw [e]
                  refine RepV.ip (w := w) (L := []) (Z := Zc) (enc k' x) off b (i * wid k') (fun j => C.getD (i * wid k' + j) Go.undef) (hb id _ b k1 hn.rp hL rfl) (fun j hj => ?_) (fun j hj => ?_) (hs.lt hL rfl)
                  · rw [enc_length] at hj
                    exact cellGet hh (row_bound hx hj hsz)
                  · rw [enc_length] at hj
                    exact (hrr i x hx j hj).strip (enc_clean k' x j hj) ha
                · exact absurd rfl (blk_gone hs hL hg k2)
        case ms id v0 lo len =>
          cases hm : bnth (killAll m ids) id with
          | dead => simp [hm] at h
          | cells cs => simp [hm] at h
          | row v' k' l' =>
            simp only [hm] at h
            cases he : eqN v0 v' with
            | false => simp [he] at h
            | true =>
              simp only [he] at h
              split at h
              · rename_i hle
                simp only [Option.some.injEq] at h
                obtain ⟨k1, k2⟩ := killAll_some hm (by simp)
                have hl : asList k' m (.ms id v0 lo len) = some ((l'.drop lo).take len) := by
                  simp only [asList, k2, he, if_pos hle]
                  exact castK_self k' _
                exact fin _ (sl_sound hs ha hb hv hl (fun _ _ _ _ e => by cases e; exact ⟨k1, hn.ms⟩)) h.symm
              · simp at h
        case fn f cs =>
          cases hc : im (killAll m ids) d cs with
          | none => simp [hc] at h
          | some cs' =>
            simp only [hc, Option.some.injEq] at h
            obtain ⟨Cs, e, hsz, hrr⟩ := hv.fn_inv
            obtain ⟨j1, j2⟩ := ih cs cs' (fun j => Cs.getD j Go.undef) hc hn.fn hrr
            exact fin _ (by rw [e]; exact .fn f cs' Cs (by omega) j2) h.symm

end lend

end Go.Proofs.Ytnghlmogcbmlfaa
