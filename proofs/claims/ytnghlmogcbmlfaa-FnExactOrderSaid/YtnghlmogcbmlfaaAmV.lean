/- What is laid into memory, and laid back. -/
import Derived.Test.YtnghlmogcbmlfaaAmU
namespace Go.Proofs.Ytnghlmogcbmlfaa
set_option linter.unusedVariables false
set_option linter.unusedSimpArgs false

section land
variable {w : World} {Z : Nat → Prop}

theorem BlkRep.append {L L2 : List LB} {x : LB} {β : Blk} (h : BlkRep w L Z x β) : BlkRep w (L ++ L2) Z x β :=
  h.ext ⟨Nat.le_refl _, fun _ _ _ => rfl, fun _ _ => rfl, fun b hb => .inl hb, fun i x hx => ⟨x, by rw [List.getElem?_append_left (List.getElem?_eq_some_iff.1 hx).1]; exact hx, .refl x⟩⟩ (fun _ _ => rfl)

theorem repL_plain : ∀ (cs : List AV) (Vs : List Value), Vs.length = cs.length → (∀ j, j < cs.length → RepV w [] Z (nth cs j) (Vs[j]?.getD Go.undef)) → RepL w Z cs Vs [] := by
  intro cs
  induction cs with
  | nil => intro Vs h _; obtain rfl := List.length_eq_zero_iff.1 h; exact .nil
  | cons v cs ih =>
    intro Vs h hr
    cases Vs with
    | nil => simp at h
    | cons V Vs => exact .plain (by simpa [nth] using hr 0 (by simp)) (ih Vs (by simpa using h) (fun j hj => by simpa [nth] using hr (j + 1) (by simpa using hj)))

theorem bnth_append_right {m n : List Blk} {i : Nat} : bnth (m ++ n) (m.length + i) = bnth n i := by
  induction m with
  | nil => simp
  | cons x m ih =>
    have e : (x :: m).length + i = (m.length + i) + 1 := by simp; omega
    rw [e]
    exact ih

/-- What is laid into memory. -/
def Landed (w : World) (Z : Nat → Prop) (n : Nat) (vs : List AV) (Vs : List Value) (F : List Nat) (bs : List Blk) (Ls : List LB) : Prop :=
  Ls.length = bs.length ∧ (Ls.filterMap blkOf).Perm F ∧ vs.length = Vs.length ∧ ∀ (L : List LB) (Z2 : Nat → Prop), L.length = n → (∀ b, Z2 b → Z b) →
    (∀ j, j < vs.length → RepV w (L ++ Ls) Z2 (nth vs j) (Vs[j]?.getD Go.undef)) ∧ ∀ j x, Ls[j]? = some x → BlkRep w (L ++ Ls) Z2 x (bnth bs j)

theorem land_sound : ∀ (d : Nat) (as : List AV) (m : List Blk) (vs : List AV) (m' : List Blk) (Vs : List Value) (F : List Nat), land d as m = some (vs, m') → RepL w Z as Vs F →
    ∃ bs Ls, m' = m ++ bs ∧ Landed w Z m.length vs Vs F bs Ls := by
  intro d
  induction d with
  | zero => intro as m vs m' Vs F h; simp [land] at h
  | succ d ih =>
    intro as m vs m' Vs F h hr
    -- a list and its head
    have cons : ∀ {r r' : List AV} {m1 m2 : List Blk} {R : List Value} {G : List Nat} {v' : AV} {V : Value} {bs0 : List Blk} {Ls0 : List LB} {F0 : List Nat}, land d r m1 = some (r', m2) → RepL w Z r R G → m1 = m ++ bs0 → Ls0.length = bs0.length → (Ls0.filterMap blkOf).Perm F0 →
        (∀ (L : List LB) (Z2 : Nat → Prop), L.length = m.length → (∀ b, Z2 b → Z b) → RepV w (L ++ Ls0) Z2 v' V ∧ ∀ j x, Ls0[j]? = some x → BlkRep w (L ++ Ls0) Z2 x (bnth bs0 j)) →
        ∃ bs Ls, m2 = m ++ bs ∧ Landed w Z m.length (v' :: r') (V :: R) (F0 ++ G) bs Ls := by
      intro r r' m1 m2 R G v' V bs0 Ls0 F0 hl hR hm1 hlen hp hb
      obtain ⟨bs, Ls, e, e1, e2, e3, e4⟩ := ih r m1 r' m2 R G hl hR
      subst hm1
      refine ⟨bs0 ++ bs, Ls0 ++ Ls, by rw [e, List.append_assoc], by simp [hlen, e1], ?_, by simp [e3], fun L Z2 hL hZ => ?_⟩
      · rw [List.filterMap_append]
        exact hp.append e2
      · obtain ⟨b1, b2⟩ := hb L Z2 hL hZ
        obtain ⟨c1, c2⟩ := e4 (L ++ Ls0) Z2 (by simp [hL, hlen]) hZ
        rw [List.append_assoc] at c1 c2
        refine ⟨fun j hj => ?_, fun j x hx => ?_⟩
        · cases j with
          | zero =>
            rw [← List.append_assoc]
            simpa [nth] using b1.append (L2 := Ls)
          | succ j => simpa [nth] using c1 j (by simpa using hj)
        · by_cases hj : j < Ls0.length
          · rw [List.getElem?_append_left hj] at hx
            rw [bnth_app_left (by omega), ← List.append_assoc]
            exact (b2 j x hx).append
          · rw [List.getElem?_append_right (by omega)] at hx
            have := c2 _ x hx
            have e : j = bs0.length + (j - Ls0.length) := by omega
            rw [e, bnth_append_right]
            exact this
    cases hr with
    | nil =>
      simp only [land, Option.some.injEq, Prod.mk.injEq] at h
      obtain ⟨rfl, rfl⟩ := h
      exact ⟨[], [], by simp, rfl, .refl _, rfl, fun L Z2 _ _ => ⟨fun j hj => by simp at hj, fun j x hx => by simp at hx⟩⟩
    | @plain v V r R _ hv ht =>
      have fin : ∀ (r' : List AV) (m2 : List Blk), land d r m = some (r', m2) → vs = v :: r' → m' = m2 → ∃ bs Ls, m' = m ++ bs ∧ Landed w Z m.length vs (V :: R) F bs Ls := by
        rintro r' m2 h1 rfl rfl
        have := cons (v' := v) (V := V) (bs0 := []) (Ls0 := []) (F0 := []) h1 ht (by simp) rfl (.refl _) (fun L Z2 hL hZ => ⟨by rw [List.append_nil]; exact hv.weaken hZ, fun j x hx => by simp at hx⟩)
        simpa using this
      have sub : ∀ (cs : List AV) (C : Array Value) (f : List AV → AV) (g : Array Value → Value), C.size = cs.length → (∀ j, j < cs.length → RepV w [] Z (nth cs j) (C.getD j Go.undef)) →
          (∀ (L : List LB) (Z2 : Nat → Prop) (cs' : List AV), C.size = cs'.length → (∀ j, j < cs'.length → RepV w L Z2 (nth cs' j) (C.getD j Go.undef)) → RepV w L Z2 (f cs') (g C)) → V = g C →
          ∀ (cs' r' : List AV) (m1 m2 : List Blk), land d cs m = some (cs', m1) → land d r m1 = some (r', m2) → vs = f cs' :: r' → m' = m2 → ∃ bs Ls, m' = m ++ bs ∧ Landed w Z m.length vs (V :: R) F bs Ls := by
        rintro cs C f g hsz hrr hf rfl cs' r' m1 m2 h1 h2 rfl rfl
        obtain ⟨bs, Ls, e, e1, e2, e3, e4⟩ := ih cs m cs' m1 C.toList [] h1 (repL_plain cs C.toList (by simpa using hsz) (fun j hj => by simpa [Array.getD_eq_getD_getElem?] using hrr j hj))
        have := cons (v' := f cs') (V := g C) h2 ht e e1 e2 (fun L Z2 hL hZ => by
          obtain ⟨c1, c2⟩ := e4 L Z2 hL hZ
          exact ⟨hf _ _ _ (by simpa using e3.symm) (fun j hj => by simpa [Array.getD_eq_getD_getElem?] using c1 j hj), c2⟩)
        simpa using this
      simp only [land] at h
      cases v with
      | own k l => cases hv
      | mrow k l => cases hv
      | box cs => cases hv
      | agg cs =>
        simp only at h
        obtain ⟨C, e, hsz, hrr⟩ := hv.agg_inv
        cases h1 : land d cs m with
        | none => simp [h1] at h
        | some q =>
          obtain ⟨cs', m1⟩ := q
          cases h2 : land d r m1 with
          | none => simp [h1, h2] at h
          | some q =>
            obtain ⟨r', m2⟩ := q
            simp only [h1, h2, Option.some.injEq, Prod.mk.injEq] at h
            exact sub cs C .agg .agg hsz hrr (fun L Z2 cs' hs hr => .agg cs' C hs hr) e cs' r' m1 m2 h1 h2 h.1.symm h.2.symm
      | tup cs =>
        simp only at h
        obtain ⟨C, e, hsz, hrr⟩ := hv.tup_inv
        cases h1 : land d cs m with
        | none => simp [h1] at h
        | some q =>
          obtain ⟨cs', m1⟩ := q
          cases h2 : land d r m1 with
          | none => simp [h1, h2] at h
          | some q =>
            obtain ⟨r', m2⟩ := q
            simp only [h1, h2, Option.some.injEq, Prod.mk.injEq] at h
            exact sub cs C .tup .tuple hsz hrr (fun L Z2 cs' hs hr => .tup cs' C hs hr) e cs' r' m1 m2 h1 h2 h.1.symm h.2.symm
      | _ =>
        simp only at h
        cases h1 : land d r m with
        | none => simp [h1] at h
        | some q =>
          obtain ⟨r', m2⟩ := q
          simp only [h1, Option.some.injEq, Prod.mk.injEq] at h
          exact fin r' m2 h1 h.1.symm h.2.symm
    | @own k l V b r R G hrow ht =>
      simp only [land] at h
      cases h1 : land d r (m ++ [.row 0 k l]) with
      | none => simp [h1] at h
      | some q =>
        obtain ⟨r', m2⟩ := q
        simp only [h1, Option.some.injEq, Prod.mk.injEq] at h
        obtain ⟨rfl, rfl⟩ := h
        obtain ⟨cap, C, t, z, e, hoff, c1, c2, hh, hnm, hsz, hrr⟩ := hrow
        exact cons (bs0 := [.row 0 k l]) (Ls0 := [.row (some b) 0 (wid k)]) (F0 := [b]) h1 ht rfl rfl (.refl _) (fun L Z2 hL hZ => by
          have hLb : (L ++ [LB.row (some b) 0 (wid k)])[m.length]? = some (.row (some b) 0 (wid k)) := by rw [← hL]; simp
          have hszo : szOf w b = C.size := by simp [szOf, hh]
          refine ⟨?_, fun j x hx => ?_⟩
          · rw [e]
            have := RepV.ms (w := w) (L := L ++ [LB.row (some b) 0 (wid k)]) (Z := Z2) m.length 0 0 l.length cap b (wid k) (.inl ⟨hLb, by rw [hszo]; simpa using hsz⟩) ⟨c2, c1⟩ (fun _ => hoff)
            simpa using this
          · cases j with
            | succ j => simp at hx
            | zero =>
              simp only [List.getElem?_cons_zero, Option.some.injEq] at hx
              subst hx
              refine ⟨rfl, rfl, by omega, C, t, z, hh, hnm, Nat.le_trans (Nat.mul_le_mul_right _ c2) hsz, fun i x hx j hj => (hrr i x hx j hj).weaken hZ⟩)
    | @own0 k p r R G ht =>
      simp only [land] at h
      cases h1 : land d r (m ++ [.row 0 k []]) with
      | none => simp [h1] at h
      | some q =>
        obtain ⟨r', m2⟩ := q
        simp only [h1, Option.some.injEq, Prod.mk.injEq] at h
        obtain ⟨rfl, rfl⟩ := h
        have := cons (bs0 := [.row 0 k []]) (Ls0 := [.row none 0 (wid k)]) (F0 := []) (V := .slice p 0 0) (v' := .ms m.length 0 0 ([] : List (T k)).length) h1 ht rfl rfl (.refl _) (fun L Z2 hL hZ => by
          have hLb : (L ++ [LB.row none 0 (wid k)])[m.length]? = some (.row none 0 (wid k)) := by rw [← hL]; simp
          refine ⟨.ms0 m.length 0 (wid k) p (.inl hLb), fun j x hx => ?_⟩
          cases j with
          | succ j => simp at hx
          | zero =>
            simp only [List.getElem?_cons_zero, Option.some.injEq] at hx
            subst hx
            exact ⟨rfl, rfl, rfl⟩)
        simpa using this
    | @mrow k l V b r R G hrow ht =>
      simp only [land] at h
      cases h1 : land d r (m ++ [.row 0 k l]) with
      | none => simp [h1] at h
      | some q =>
        obtain ⟨r', m2⟩ := q
        simp only [h1, Option.some.injEq, Prod.mk.injEq] at h
        obtain ⟨rfl, rfl⟩ := h
        obtain ⟨cap, C, t, z, e, hoff, c1, c2, hh, hnm, hsz, hrr⟩ := hrow
        exact cons (bs0 := [.row 0 k l]) (Ls0 := [.row (some b) 0 (wid k)]) (F0 := [b]) h1 ht rfl rfl (.refl _) (fun L Z2 hL hZ => by
          have hLb : (L ++ [LB.row (some b) 0 (wid k)])[m.length]? = some (.row (some b) 0 (wid k)) := by rw [← hL]; simp
          have hszo : szOf w b = C.size := by simp [szOf, hh]
          refine ⟨?_, fun j x hx => ?_⟩
          · rw [e]
            have := RepV.ms (w := w) (L := L ++ [LB.row (some b) 0 (wid k)]) (Z := Z2) m.length 0 0 l.length cap b (wid k) (.inl ⟨hLb, by rw [hszo]; simpa using hsz⟩) ⟨c2, c1⟩ (fun _ => hoff)
            simpa using this
          · cases j with
            | succ j => simp at hx
            | zero =>
              simp only [List.getElem?_cons_zero, Option.some.injEq] at hx
              subst hx
              refine ⟨rfl, rfl, by omega, C, t, z, hh, hnm, Nat.le_trans (Nat.mul_le_mul_right _ c2) hsz, fun i x hx j hj => (hrr i x hx j hj).weaken hZ⟩)
    | @mrow0 k p r R G ht =>
      simp only [land] at h
      cases h1 : land d r (m ++ [.row 0 k []]) with
      | none => simp [h1] at h
      | some q =>
        obtain ⟨r', m2⟩ := q
        simp only [h1, Option.some.injEq, Prod.mk.injEq] at h
        obtain ⟨rfl, rfl⟩ := h
        have := cons (bs0 := [.row 0 k []]) (Ls0 := [.row none 0 (wid k)]) (F0 := []) (V := .slice p 0 0) (v' := .ms m.length 0 0 ([] : List (T k)).length) h1 ht rfl rfl (.refl _) (fun L Z2 hL hZ => by
          have hLb : (L ++ [LB.row none 0 (wid k)])[m.length]? = some (.row none 0 (wid k)) := by rw [← hL]; simp
          refine ⟨.ms0 m.length 0 (wid k) p (.inl hLb), fun j x hx => ?_⟩
          cases j with
          | succ j => simp at hx
          | zero =>
            simp only [List.getElem?_cons_zero, Option.some.injEq] at hx
            subst hx
            exact ⟨rfl, rfl, rfl⟩)
        simpa using this
    | @agg cs C r R F1 G hc ht =>
      simp only [land] at h
      cases h1 : land d cs m with
      | none => simp [h1] at h
      | some q =>
        obtain ⟨cs', m1⟩ := q
        cases h2 : land d r m1 with
        | none => simp [h1, h2] at h
        | some q =>
          obtain ⟨r', m2⟩ := q
          simp only [h1, h2, Option.some.injEq, Prod.mk.injEq] at h
          obtain ⟨rfl, rfl⟩ := h
          obtain ⟨bs, Ls, e, e1, e2, e3, e4⟩ := ih cs m cs' m1 C.toList F1 h1 hc
          exact cons (v' := .agg cs') (V := .agg C) h2 ht e e1 e2 (fun L Z2 hL hZ => by
            obtain ⟨c1, c2⟩ := e4 L Z2 hL hZ
            exact ⟨.agg cs' C (by simpa using e3.symm) (fun j hj => by simpa [Array.getD_eq_getD_getElem?] using c1 j hj), c2⟩)
    | @tup cs C r R F1 G hc ht =>
      simp only [land] at h
      cases h1 : land d cs m with
      | none => simp [h1] at h
      | some q =>
        obtain ⟨cs', m1⟩ := q
        cases h2 : land d r m1 with
        | none => simp [h1, h2] at h
        | some q =>
          obtain ⟨r', m2⟩ := q
          simp only [h1, h2, Option.some.injEq, Prod.mk.injEq] at h
          obtain ⟨rfl, rfl⟩ := h
          obtain ⟨bs, Ls, e, e1, e2, e3, e4⟩ := ih cs m cs' m1 C.toList F1 h1 hc
          exact cons (v' := .tup cs') (V := .tuple C) h2 ht e e1 e2 (fun L Z2 hL hZ => by
            obtain ⟨c1, c2⟩ := e4 L Z2 hL hZ
            exact ⟨.tup cs' C (by simpa using e3.symm) (fun j hj => by simpa [Array.getD_eq_getD_getElem?] using c1 j hj), c2⟩)
    | @box cs b C t r R F1 G hh hc ht =>
      simp only [land] at h
      cases h1 : land d cs m with
      | none => simp [h1] at h
      | some q =>
        obtain ⟨cs', m1⟩ := q
        cases h2 : land d r (m1 ++ [.cells cs']) with
        | none => simp [h1, h2] at h
        | some q =>
          obtain ⟨r', m2⟩ := q
          simp only [h1, h2, Option.some.injEq, Prod.mk.injEq] at h
          obtain ⟨rfl, rfl⟩ := h
          obtain ⟨bs, Ls, e, e1, e2, e3, e4⟩ := ih cs m cs' m1 C.toList F1 h1 hc
          have hp : ((Ls ++ [LB.cell b]).filterMap blkOf).Perm (b :: F1) := by
            rw [List.filterMap_append]
            exact (List.perm_append_comm).trans (List.Perm.cons b e2)
          exact cons (v' := .ptr m1.length 0) (V := .pointer (some ⟨b, 0, none⟩)) (bs0 := bs ++ [.cells cs']) (Ls0 := Ls ++ [.cell b]) (F0 := b :: F1) h2 ht (by rw [e, List.append_assoc]) (by simp [e1]) hp (fun L Z2 hL hZ => by
            obtain ⟨c1, c2⟩ := e4 L Z2 hL hZ
            refine ⟨.ptr _ 0 b (.inl ?_), fun j x hx => ?_⟩
            · have : m1.length = (L ++ Ls).length := by rw [e]; simp [hL, e1]
              rw [this, ← List.append_assoc]
              simp
            · rw [← List.append_assoc]
              by_cases hj : j < Ls.length
              · rw [List.getElem?_append_left hj] at hx
                rw [bnth_app_left (by omega)]
                exact (c2 j x hx).append
              · have hj2 : j = Ls.length := by
                  have := (List.getElem?_eq_some_iff.1 hx).1
                  simp at this
                  omega
                subst hj2
                simp at hx
                subst hx
                rw [e1, bnth_app_new]
                exact ⟨C, t, hh, by simpa using e3.symm, fun j hj => by
                  have := (c1 j hj).append (L2 := [LB.cell b])
                  simpa [Array.getD_eq_getD_getElem?] using this⟩)

def outsV : List Mode → List Value → List Value
  | md :: ms, v :: vs => match wrote md with
    | true => v :: outsV ms vs
    | false => outsV ms vs
  | _, _ => []

theorem RepL.cons_inv {v : AV} {r : List AV} {V : Value} {R : List Value} {F : List Nat} (h : RepL w Z (v :: r) (V :: R) F) : ∃ F1 F2, F = F1 ++ F2 ∧ RepL w Z [v] [V] F1 ∧ RepL w Z r R F2 := by
  cases h with
  | plain h t => exact ⟨[], _, rfl, .plain h .nil, t⟩
  | @own _ _ _ b _ _ _ h t => exact ⟨[b], _, rfl, .own h .nil, t⟩
  | own0 t => exact ⟨[], _, rfl, .own0 .nil, t⟩
  | @mrow _ _ _ b _ _ _ h t => exact ⟨[b], _, rfl, .mrow h .nil, t⟩
  | mrow0 t => exact ⟨[], _, rfl, .mrow0 .nil, t⟩
  | @box cs b C t r R F G h hc ht => exact ⟨b :: (F ++ []), G, by simp, .box h hc .nil, ht⟩
  | @agg cs C r R F G hc ht => exact ⟨F ++ [], G, by simp, .agg hc .nil, ht⟩
  | @tup cs C r R F G hc ht => exact ⟨F ++ [], G, by simp, .tup hc .nil, ht⟩

/-- What is said of what is laid back. -/
def Backed (w : World) (Z : Nat → Prop) (lb : Nat → Option LB) (m m' : List Blk) (F : List Nat) : Prop :=
  ∃ (n : Nat) (Ls : List LB) (rv F0 : List Nat), m'.length = m.length + n ∧ Ls.length = n ∧ (∀ i, i < m.length → i ∉ rv → bnth m' i = bnth m i) ∧
    (rv.filterMap (fun i => (lb i).bind blkOf) ++ Ls.filterMap blkOf).Perm F0 ∧ F0.Sublist F ∧ (∀ i ∈ rv, ∃ x, lb i = some x) ∧
    ∀ (L : List LB) (Z2 : Nat → Prop), L.length = m.length → (∀ b, Z2 b → Z b) → (∀ i ∈ rv, ∀ x, lb i = some x → BlkRep w (L ++ Ls) Z2 x (bnth m' i)) ∧ ∀ j x, Ls[j]? = some x → BlkRep w (L ++ Ls) Z2 x (bnth m' (m.length + j))

theorem Backed.refl {lb : Nat → Option LB} {m : List Blk} {F : List Nat} : Backed w Z lb m m F :=
  ⟨0, [], [], [], rfl, rfl, fun _ _ _ => rfl, .refl _, List.nil_sublist _, fun i hi => by simp at hi, fun L Z2 _ _ => ⟨fun i hi => by simp at hi, fun j x hx => by simp at hx⟩⟩

theorem Backed.trans {lb : Nat → Option LB} {m m1 m' : List Blk} {F G : List Nat} (hlt : ∀ i x, lb i = some x → i < m.length) (h : Backed w Z lb m m1 F) (k : Backed w Z lb m1 m' G) : Backed w Z lb m m' (F ++ G) := by
  obtain ⟨n1, Ls1, rv1, F1, a1, a2, a3, a4, a5, a6, a7⟩ := h
  obtain ⟨n2, Ls2, rv2, F2, b1, b2, b3, b4, b5, b6, b7⟩ := k
  refine ⟨n1 + n2, Ls1 ++ Ls2, rv1 ++ rv2, F1 ++ F2, by omega, by simp [a2, b2], fun i hi hin => ?_, ?_, a5.append b5, fun i hi => ?_, fun L Z2 hL hZ => ?_⟩
  · simp only [List.mem_append, not_or] at hin
    rw [b3 i (by omega) hin.2, a3 i hi hin.1]
  · rw [List.filterMap_append, List.filterMap_append]
    refine List.Perm.trans ?_ (a4.append b4)
    rw [List.append_assoc, List.append_assoc]
    refine List.Perm.append_left _ ?_
    rw [← List.append_assoc, ← List.append_assoc]
    exact List.Perm.append_right _ List.perm_append_comm
  · rcases List.mem_append.1 hi with hi | hi
    · exact a6 i hi
    · exact b6 i hi
  · obtain ⟨c1, c2⟩ := a7 L Z2 hL hZ
    obtain ⟨d1, d2⟩ := b7 (L ++ Ls1) Z2 (by simp [hL, a2, a1]) hZ
    rw [List.append_assoc] at d1 d2
    refine ⟨fun i hi x hx => ?_, fun j x hx => ?_⟩
    · by_cases hr : i ∈ rv2
      · exact d1 i hr x hx
      · rcases List.mem_append.1 hi with hi | hi
        · have hl := hlt i x hx
          rw [b3 i (by omega) hr, ← List.append_assoc]
          exact (c1 i hi x hx).append
        · exact absurd hi hr
    · by_cases hj : j < Ls1.length
      · rw [List.getElem?_append_left hj] at hx
        have hnr : m.length + j ∉ rv2 := fun hr => by
          obtain ⟨y, hy⟩ := b6 _ hr
          have := hlt _ _ hy
          omega
        rw [b3 _ (by omega) hnr, ← List.append_assoc]
        exact (c2 j x hx).append
      · rw [List.getElem?_append_right (by omega)] at hx
        have := d2 _ x hx
        have e : m1.length + (j - Ls1.length) = m.length + j := by omega
        rw [e] at this
        exact this

/-- One block is laid back. -/
theorem Backed.one {lb : Nat → Option LB} {m : List Blk} {id : Nat} {x : LB} {β : Blk} (hx : lb id = some x) (hid : id < m.length) (hb : ∀ (L : List LB) (Z2 : Nat → Prop), (∀ b, Z2 b → Z b) → BlkRep w L Z2 x β) : Backed w Z lb m (setB m id β) (blkOf x).toList := by
  refine ⟨0, [], [id], (blkOf x).toList, by rw [length_setB]; rfl, rfl, fun i hi hin => ?_, ?_, List.Sublist.refl _, fun i hi => ?_, fun L Z2 hL hZ => ⟨fun i hi y hy => ?_, fun j y hy => by simp at hy⟩⟩
  · simp only [List.mem_singleton] at hin
    exact bnth_setB_other (fun e => hin e.symm)
  · rw [List.filterMap_cons, hx, Option.bind_some]
    cases blkOf x <;> exact .refl _
  · simp only [List.mem_singleton] at hi
    subst hi
    exact ⟨x, hx⟩
  · simp only [List.mem_singleton] at hi
    subst hi
    rw [hx, Option.some.injEq] at hy
    subst hy
    rw [bnth_setB_same hid]
    exact hb _ _ hZ

theorem Backed.sub {lb : Nat → Option LB} {m m' : List Blk} {F F' : List Nat} (h : Backed w Z lb m m' F) (hs : F.Sublist F') : Backed w Z lb m m' F' := by
  obtain ⟨bs, Ls, rv, F0, h1, h2, h3, h4, h5, h6, h7⟩ := h
  exact ⟨bs, Ls, rv, F0, h1, h2, h3, h4, h5.trans hs, h6, h7⟩

/-- Where a list that is written lies. -/
def rowHome (lb : Nat → Option LB) (k : Kd) (v : AV) (V : Value) : Prop :=
  ∀ id ver lo len, v = .ms id ver lo len → (∃ b n cap, V = .slice (some ⟨b, 0, none⟩) n cap ∧ 0 < cap ∧ lb id = some (.row (some b) ver (wid k))) ∨ (lb id = some (.row none ver (wid k)) ∧ ∃ p, V = .slice p 0 0)

/-- Where what is written lies. -/
def home (lb : Nat → Option LB) (md : Mode) (v : AV) (V : Value) : Prop :=
  match md with
  | .box _ => ∀ id off, v = .ptr id off → ∃ b, V = .pointer (some ⟨b, 0, none⟩) ∧ lb id = some (.cell b)
  | .mrow k => rowHome lb k v V
  | .agg ms => ∀ cs C, v = .agg cs → V = .agg C → ∀ (j : Nat) (k : Kd) (u : AV), ms[j]? = some (.mrow k) → cs[j]? = some u → rowHome lb k u (C.toList[j]?.getD Go.undef)
  | _ => True

theorem backR_sound {lb : Nat → Option LB} {k : Kd} {v o : AV} {V : Value} {m m' : List Blk} {F : List Nat} (h : backR k v o m = some m') (hr : RepL w Z [o] [V] F) (hlt : ∀ i x, lb i = some x → i < m.length) (hh : rowHome lb k v V) : Backed w Z lb m m' F := by
  unfold backR at h
  cases v <;> simp only at h <;> try (simp at h; done)
  case nil =>
    cases o <;> simp only at h <;> try (simp at h; done)
    simp only [Option.some.injEq] at h
    subst h
    exact .refl
  case ms id ver lo len =>
    cases o <;> simp only at h <;> try (simp at h; done)
    rename_i k' l'
    cases hcast : castK k k' l' with
    | none => simp [hcast] at h
    | some l2 =>
      obtain ⟨ek, el⟩ := castK_some hcast
      subst ek
      obtain rfl : l' = l2 := el.symm
      simp only [hcast, Option.some.injEq] at h
      subst h
      rcases hh id ver lo len rfl with ⟨b, n, cap, hV, hcap, hlb⟩ | ⟨hlb, p, hV⟩
      · subst hV
        cases hr with
        | plain hv ht => cases hv
        | mrow0 ht => omega
        | @mrow _ _ _ b2 _ _ G hrw ht =>
          cases ht
          obtain ⟨cap2, Cc, t, z, e, hoff, c1, c2, hh, hnm, hsz, hrr⟩ := hrw
          simp only [Value.slice.injEq, Option.some.injEq, Addr.mk.injEq] at e
          obtain ⟨⟨rfl, _⟩, _, rfl⟩ := e
          exact Backed.one hlb (hlt id _ hlb) (fun L Z2 hZ => ⟨rfl, rfl, by omega, Cc, t, z, hh, hnm, Nat.le_trans (Nat.mul_le_mul_right _ c2) hsz, fun i x hx j hj => (hrr i x hx j hj).weaken hZ⟩)
      · subst hV
        have hl0 : l' = [] := by
          cases hr with
          | plain hv ht => cases hv
          | mrow hrw ht =>
            obtain ⟨cap2, Cc, t, z, e, _⟩ := hrw
            simp only [Value.slice.injEq] at e
            exact List.length_eq_zero_iff.1 e.2.1.symm
          | mrow0 ht => rfl
        subst hl0
        exact (Backed.one (β := .row ver k []) hlb (hlt id _ hlb) (fun L Z2 _ => ⟨rfl, rfl, rfl⟩)).sub (List.nil_sublist _)

theorem backC_sound {lb : Nat → Option LB} : ∀ (ms : List Mode) (vs os : List AV) (m m' : List Blk) (Vs : List Value) (F : List Nat), backC ms vs os m = some m' → RepL w Z os Vs F → (∀ i x, lb i = some x → i < m.length) →
    (∀ (j : Nat) (k : Kd) (u : AV), ms[j]? = some (.mrow k) → vs[j]? = some u → rowHome lb k u (Vs[j]?.getD Go.undef)) → Backed w Z lb m m' F := by
  intro ms
  induction ms with
  | nil =>
    intro vs os m m' Vs F h hr hlt hh
    cases vs <;> cases os <;> simp [backC] at h
    subst h
    exact .refl
  | cons md ms ih =>
    intro vs os m m' Vs F h hr hlt hh
    cases vs with
    | nil => simp [backC] at h
    | cons v vs =>
      cases os with
      | nil => simp [backC] at h
      | cons o os =>
        cases Vs with
        | nil => cases hr
        | cons V Vs =>
          obtain ⟨F1, F2, rfl, hr1, hr2⟩ := hr.cons_inv
          have other : backC ms vs os m = some m' → Backed w Z lb m m' (F1 ++ F2) := fun h =>
            (ih vs os m m' Vs F2 h hr2 hlt (fun j k u h1 h2 => by simpa using hh (j + 1) k u (by simpa using h1) (by simpa using h2))).sub (List.sublist_append_right _ _)
          simp only [backC] at h
          cases md <;> simp only at h <;> try exact other h
          rename_i k
          cases hb : backR k v o m with
          | none => simp [hb] at h
          | some m1 =>
            simp only [hb] at h
            have b1 := backR_sound hb hr1 hlt (by simpa using hh 0 k v rfl rfl)
            have hl : m.length ≤ m1.length := by
              obtain ⟨n, _, _, _, e, _⟩ := b1
              omega
            exact b1.trans hlt (ih vs os m1 m' Vs F2 h hr2 (fun i x hx => Nat.lt_of_lt_of_le (hlt i x hx) hl) (fun j k u h1 h2 => by simpa using hh (j + 1) k u (by simpa using h1) (by simpa using h2)))

/-- What is laid back. -/
theorem back_sound {lb : Nat → Option LB} : ∀ (ms : List Mode) (vs outs : List AV) (m m' : List Blk) (Vs : List Value) (F : List Nat), back ms vs outs m = some m' → RepL w Z outs (outsV ms Vs) F → Vs.length = vs.length → (∀ i x, lb i = some x → i < m.length) →
    (∀ (j : Nat) (md : Mode) (v : AV) (V : Value), ms[j]? = some md → vs[j]? = some v → Vs[j]? = some V → home lb md v V) →
    Backed w Z lb m m' F := by
  intro ms
  induction ms with
  | nil =>
    intro vs outs m m' Vs F h hr hl hlt hh
    cases vs <;> cases outs <;> simp [back] at h
    subst h
    exact .refl
  | cons md ms ih =>
    intro vs outs m m' Vs F h hr hl hlt hh
    cases vs with
    | nil => simp [back] at h
    | cons v vs =>
      cases Vs with
      | nil => simp at hl
      | cons V Vs =>
        have next : ∀ (outs : List AV) (m0 : List Blk) (F : List Nat), m.length ≤ m0.length → back ms vs outs m0 = some m' → RepL w Z outs (outsV ms Vs) F → Backed w Z lb m0 m' F := by
          intro outs m0 F hm0 h1 h2
          exact ih vs outs m0 m' Vs F h1 h2 (by simpa using hl) (fun i x hx => Nat.lt_of_lt_of_le (hlt i x hx) hm0) (fun j md' v' V' h3 h4 h5 => hh (j + 1) md' v' V' h3 h4 h5)
        have other : wrote md = false → back ms vs outs m = some m' → Backed w Z lb m m' F := by
          intro hw hb
          simp only [outsV, hw] at hr
          exact next outs m F (Nat.le_refl _) hb hr
        have hd : ∀ {o : AV} {os : List AV} {m1 : List Blk} {F1 F2 : List Nat}, Backed w Z lb m m1 F1 → back ms vs os m1 = some m' → RepL w Z os (outsV ms Vs) F2 → Backed w Z lb m m' (F1 ++ F2) := by
          intro o os m1 F1 F2 b1 hb h2
          have hlm : m.length ≤ m1.length := by
            obtain ⟨n, _, _, _, e, _⟩ := b1
            omega
          exact b1.trans hlt (next os m1 F2 hlm hb h2)
        have h0 := hh 0 md v V rfl rfl rfl
        simp only [back] at h
        cases md with
        | v => exact other rfl h
        | fn => exact other rfl h
        | imm k => exact other rfl h
        | own k => exact other rfl h
        | tup ms2 => exact other rfl h
        | mrow k =>
          simp only [outsV, wrote] at hr
          cases outs with
          | nil => simp at h
          | cons o os =>
            simp only at h
            cases hb : backR k v o m with
            | none => simp [hb] at h
            | some m1 =>
              simp only [hb] at h
              obtain ⟨F1, F2, rfl, hr1, hr2⟩ := hr.cons_inv
              exact hd (o := o) (backR_sound hb hr1 hlt h0) h hr2
        | agg ms2 =>
          cases hany : anyM ms2 with
          | false =>
            simp only [hany] at h
            exact other hany h
          | true =>
            simp only [hany] at h
            simp only [outsV, wrote, hany] at hr
            cases v <;> simp only at h <;> try (simp at h; done)
            rename_i cs
            cases outs with
            | nil => simp at h
            | cons o os =>
              cases o <;> simp only at h <;> try (simp at h; done)
              rename_i os2
              cases hb : backC ms2 cs os2 m with
              | none => simp [hb] at h
              | some m1 =>
                simp only [hb] at h
                obtain ⟨F1, F2, rfl, hr1, hr2⟩ := hr.cons_inv
                have fin : ∀ (C : Array Value) (G : List Nat), V = .agg C → RepL w Z os2 C.toList G → G.Sublist F1 → Backed w Z lb m m' (F1 ++ F2) := by
                  intro C G e hc hs
                  exact hd (o := .agg os2) ((backC_sound ms2 cs os2 m m1 C.toList G hb hc hlt (fun j k u h1 h2 => h0 cs C rfl e j k u h1 h2)).sub hs) h hr2
                cases hr1 with
                | plain hv ht =>
                  obtain ⟨C, e, hsz, hrr⟩ := hv.agg_inv
                  exact fin C [] e (repL_plain os2 C.toList (by simpa using hsz) (fun j hj => by simpa [Array.getD_eq_getD_getElem?] using hrr j hj)) (List.nil_sublist _)
                | agg hc ht =>
                  cases ht
                  exact fin _ _ rfl hc (by simp)
        | box ms2 =>
          simp only [outsV, wrote] at hr
          cases v <;> simp only at h <;> try (simp at h; done)
          rename_i id off
          cases outs with
          | nil => simp at h
          | cons o os =>
            cases o <;> simp only at h <;> try (simp at h; done)
            rename_i cs
            cases hl2 : land 64 cs m with
            | none => simp [hl2] at h
            | some q =>
              obtain ⟨cs', m1⟩ := q
              simp only [hl2] at h
              obtain ⟨F1, F2, rfl, hr1, hr2⟩ := hr.cons_inv
              obtain ⟨b, hV, hlb⟩ := h0 id off rfl
              subst hV
              cases hr1 with
              | plain hv ht => cases hv
              | @box _ b2 C t _ _ Fc G hhp hc ht =>
                cases ht
                obtain ⟨bs, Ls, e, l1, l2, l3, l4⟩ := land_sound 64 cs m cs' m1 C.toList Fc hl2 hc
                have hid := hlt id _ hlb
                refine hd (o := .box cs) (m1 := setB m1 id (.cells cs')) (F1 := b :: (Fc ++ [])) ?_ h hr2
                refine ⟨bs.length, Ls, [id], b :: Fc, by rw [length_setB, e]; simp, l1, fun i hi hin => ?_, ?_, by simp, fun i hi => ?_, fun L Z2 hL hZ => ?_⟩
                · simp only [List.mem_singleton] at hin
                  rw [bnth_setB_other (fun e => hin e.symm), e]
                  exact bnth_app_left hi
                · simpa [hlb, blkOf] using l2
                · simp only [List.mem_singleton] at hi
                  subst hi
                  exact ⟨_, hlb⟩
                · obtain ⟨c1, c2⟩ := l4 L Z2 hL hZ
                  refine ⟨fun i hi y hy => ?_, fun j x hx => ?_⟩
                  · simp only [List.mem_singleton] at hi
                    subst hi
                    rw [hlb, Option.some.injEq] at hy
                    subst hy
                    rw [bnth_setB_same (by rw [e]; simp; omega)]
                    exact ⟨C, t, hhp, by simpa using l3.symm, fun j hj => by simpa [Array.getD_eq_getD_getElem?] using c1 j hj⟩
                  · rw [bnth_setB_other (by omega), e, bnth_append_right]
                    exact c2 j x hx

end land

end Go.Proofs.Ytnghlmogcbmlfaa
