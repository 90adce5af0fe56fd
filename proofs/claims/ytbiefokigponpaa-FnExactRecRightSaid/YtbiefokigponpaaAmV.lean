/- What is laid into memory, and laid back. -/
import Derived.Test.YtbiefokigponpaaAmU
namespace Go.Proofs.Ytbiefokigponpaa
set_option linter.unusedVariables false
set_option linter.unusedSimpArgs false

section land
variable {w : World} {Z : Nat → Prop}

theorem BlkRep.append {L L2 : List LB} {x : LB} {β : Blk} (h : BlkRep w L Z x β) : BlkRep w (L ++ L2) Z x β :=
  h.ext ⟨Nat.le_refl _, fun _ _ _ => rfl, fun _ _ => rfl, fun b hb => .inl hb, fun i x hx => ⟨x, by rw [List.getElem?_append_left (List.getElem?_eq_some_iff.1 hx).1]; exact hx, .refl x⟩⟩ (fun _ _ => rfl)

theorem repL_plain : ∀ (cs : List AV) (Vs : List Value), Vs.length = cs.length → (∀ j, j < cs.length → RepV w [] Z (nth cs j) (Vs[j]?.getD Go.undef)) → RepL w Z cs Vs [] := by
  intro cs
  induction cs with
  | nil => intro Vs h _; obtain rfl := List.length_eq_zero_iff.1 h; exact .nil
  | cons v cs ih =>
    intro Vs h hr
    cases Vs with
    | nil => simp at h
    | cons V Vs => exact .plain (by simpa [nth] using hr 0 (by simp)) (ih Vs (by simpa using h) (fun j hj => by simpa [nth] using hr (j + 1) (by simpa using hj)))

theorem bnth_append_right {m n : List Blk} {i : Nat} : bnth (m ++ n) (m.length + i) = bnth n i := by
  induction m with
  | nil => simp
  | cons x m ih =>
    have e : (x :: m).length + i = (m.length + i) + 1 := by simp; omega
    rw [e]
    exact ih

/-- What is laid into memory. -/
def Landed (w : World) (Z : Nat → Prop) (n : Nat) (vs : List AV) (Vs : List Value) (F : List Nat) (bs : List Blk) (Ls : List LB) : Prop :=
  Ls.length = bs.length ∧ (Ls.filterMap blkOf).Perm F ∧ vs.length = Vs.length ∧ ∀ (L : List LB) (Z2 : Nat → Prop), L.length = n → (∀ b, Z2 b → Z b) →
    (∀ j, j < vs.length → RepV w (L ++ Ls) Z2 (nth vs j) (Vs[j]?.getD Go.undef)) ∧ ∀ j x, Ls[j]? = some x → BlkRep w (L ++ Ls) Z2 x (bnth bs j)

theorem land_sound : ∀ (d : Nat) (as : List AV) (m : List Blk) (vs : List AV) (m' : List Blk) (Vs : List Value) (F : List Nat), land d as m = some (vs, m') → RepL w Z as Vs F →
    ∃ bs Ls, m' = m ++ bs ∧ Landed w Z m.length vs Vs F bs Ls := by
  intro d
  induction d with
  | zero => intro as m vs m' Vs F h; simp [land] at h
  | succ d ih =>
    intro as m vs m' Vs F h hr
    -- a list and its head
    have cons : ∀ {r r' : List AV} {m1 m2 : List Blk} {R : List Value} {G : List Nat} {v' : AV} {V : Value} {bs0 : List Blk} {Ls0 : List LB} {F0 : List Nat}, land d r m1 = some (r', m2) → RepL w Z r R G → m1 = m ++ bs0 → Ls0.length = bs0.length → (Ls0.filterMap blkOf).Perm F0 →
        (∀ (L : List LB) (Z2 : Nat → Prop), L.length = m.length → (∀ b, Z2 b → Z b) → RepV w (L ++ Ls0) Z2 v' V ∧ ∀ j x, Ls0[j]? = some x → BlkRep w (L ++ Ls0) Z2 x (bnth bs0 j)) →
        ∃ bs Ls, m2 = m ++ bs ∧ Landed w Z m.length (v' :: r') (V :: R) (F0 ++ G) bs Ls := by
      intro r r' m1 m2 R G v' V bs0 Ls0 F0 hl hR hm1 hlen hp hb
      obtain ⟨bs, Ls, e, e1, e2, e3, e4⟩ := ih r m1 r' m2 R G hl hR
      subst hm1
      refine ⟨bs0 ++ bs, Ls0 ++ Ls, by rw [e, List.append_assoc], by simp [hlen, e1], ?_, by simp [e3], fun L Z2 hL hZ => ?_⟩
      · rw [List.filterMap_append]
        exact hp.append e2
      · obtain ⟨b1, b2⟩ := hb L Z2 hL hZ
        obtain ⟨c1, c2⟩ := e4 (L ++ Ls0) Z2 (by simp [hL, hlen]) hZ
        rw [List.append_assoc] at c1 c2
        refine ⟨fun j hj => ?_, fun j x hx => ?_⟩
        · cases j with
          | zero =>
            rw [← List.append_assoc]
            simpa [nth] using b1.append (L2 := Ls)
          | succ j => simpa [nth] using c1 j (by simpa using hj)
        · by_cases hj : j < Ls0.length
          · rw [List.getElem?_append_left hj] at hx
            rw [bnth_app_left (by omega), ← List.append_assoc]
            exact (b2 j x hx).append
          · rw [List.getElem?_append_right (by omega)] at hx
            have := c2 _ x hx
            have e : j = bs0.length + (j - Ls0.length) := by omega
            rw [e, bnth_append_right]
            exact this
    cases hr with
    | nil =>
      simp only [land, Option.some.injEq, Prod.mk.injEq] at h
      obtain ⟨rfl, rfl⟩ := h
      exact ⟨[], [], by simp, rfl, .refl _, rfl, fun L Z2 _ _ => ⟨fun j hj => by simp at hj, fun j x hx => by simp at hx⟩⟩
    | @plain v V r R _ hv ht =>
      have fin : ∀ (r' : List AV) (m2 : List Blk), land d r m = some (r', m2) → vs = v :: r' → m' = m2 → ∃ bs Ls, m' = m ++ bs ∧ Landed w Z m.length vs (V :: R) F bs Ls := by
        rintro r' m2 h1 rfl rfl
        have := cons (v' := v) (V := V) (bs0 := []) (Ls0 := []) (F0 := []) h1 ht (by simp) rfl (.refl _) (fun L Z2 hL hZ => ⟨by rw [List.append_nil]; exact hv.weaken hZ, fun j x hx => by simp at hx⟩)
        simpa using this
      have sub : ∀ (cs : List AV) (C : Array Value) (f : List AV → AV) (g : Array Value → Value), C.size = cs.length → (∀ j, j < cs.length → RepV w [] Z (nth cs j) (C.getD j Go.undef)) →
          (∀ (L : List LB) (Z2 : Nat → Prop) (cs' : List AV), C.size = cs'.length → (∀ j, j < cs'.length → RepV w L Z2 (nth cs' j) (C.getD j Go.undef)) → RepV w L Z2 (f cs') (g C)) → V = g C →
          ∀ (cs' r' : List AV) (m1 m2 : List Blk), land d cs m = some (cs', m1) → land d r m1 = some (r', m2) → vs = f cs' :: r' → m' = m2 → ∃ bs Ls, m' = m ++ bs ∧ Landed w Z m.length vs (V :: R) F bs Ls := by
        rintro cs C f g hsz hrr hf rfl cs' r' m1 m2 h1 h2 rfl rfl
        obtain ⟨bs, Ls, e, e1, e2, e3, e4⟩ := ih cs m cs' m1 C.toList [] h1 (repL_plain cs C.toList (by simpa using hsz) (fun j hj => by simpa [Array.getD_eq_getD_getElem?] using hrr j hj))
        have := cons (v' := f cs') (V := g C) h2 ht e e1 e2 (fun L Z2 hL hZ => by
          obtain ⟨c1, c2⟩ := e4 L Z2 hL hZ
          exact ⟨hf _ _ _ (by simpa using e3.symm) (fun j hj => by simpa [Array.getD_eq_getD_getElem?] using c1 j hj), c2⟩)
        simpa using this
      simp only [land] at h
      cases v with
      | own k l => cases hv
      | mrow k l => cases hv
      | box cs => cases hv
      | agg cs =>
        simp only at h
        obtain ⟨C, e, hsz, hrr⟩ := hv.agg_inv
        cases h1 : land d cs m with
        | none => simp [h1] at h
        | some q =>
          obtain ⟨cs', m1⟩ := q
          cases h2 : land d r m1 with
          | none => simp [h1, h2] at h
          | some q =>
            obtain ⟨r', m2⟩ := q
            simp only [h1, h2, Option.some.injEq, Prod.mk.injEq] at h
            exact sub cs C .agg .agg hsz hrr (fun L Z2 cs' hs hr => .agg cs' C hs hr) e cs' r' m1 m2 h1 h2 h.1.symm h.2.symm
      | tup cs =>
        simp only at h
        obtain ⟨C, e, hsz, hrr⟩ := hv.tup_inv
        cases h1 : land d cs m with
        | none => simp [h1] at h
        | some q =>
          obtain ⟨cs', m1⟩ := q
          cases h2 : land d r m1 with
          | none => simp [h1, h2] at h
          | some q =>
            obtain ⟨r', m2⟩ := q
            simp only [h1, h2, Option.some.injEq, Prod.mk.injEq] at h
            exact sub cs C .tup .tuple hsz hrr (fun L Z2 cs' hs hr => .tup cs' C hs hr) e cs' r' m1 m2 h1 h2 h.1.symm h.2.symm
      | _ =>
        simp only at h
        cases h1 : land d r m with
        | none => simp [h1] at h
        | some q =>
          obtain ⟨r', m2⟩ := q
          simp only [h1, Option.some.injEq, Prod.mk.injEq] at h
          exact fin r' m2 h1 h.1.symm h.2.symm
    | @own k l V b r R G hrow ht =>
      simp only [land] at h
      cases h1 : land d r (m ++ [.row 0 k l]) with
      | none => simp [h1] at h
      | some q =>
        obtain ⟨r', m2⟩ := q
        simp only [h1, Option.some.injEq, Prod.mk.injEq] at h
        obtain ⟨rfl, rfl⟩ := h
        obtain ⟨cap, C, t, z, e, c1, c2, hh, hnm, hsz, hrr⟩ := hrow
        exact cons (bs0 := [.row 0 k l]) (Ls0 := [.row (some b) 0 (wid k)]) (F0 := [b]) h1 ht rfl rfl (.refl _) (fun L Z2 hL hZ => by
          have hLb : (L ++ [LB.row (some b) 0 (wid k)])[m.length]? = some (.row (some b) 0 (wid k)) := by rw [← hL]; simp
          have hszo : szOf w b = C.size := by simp [szOf, hh]
          refine ⟨?_, fun j x hx => ?_⟩
          · rw [e]
            have := RepV.ms (w := w) (L := L ++ [LB.row (some b) 0 (wid k)]) (Z := Z2) m.length 0 0 l.length cap b (wid k) (.inl ⟨hLb, by rw [hszo]; simpa using hsz⟩) ⟨c2, c1⟩
            simpa using this
          · cases j with
            | succ j => simp at hx
            | zero =>
              simp only [List.getElem?_cons_zero, Option.some.injEq] at hx
              subst hx
              refine ⟨rfl, rfl, by omega, C, t, z, hh, hnm, Nat.le_trans (Nat.mul_le_mul_right _ c2) hsz, fun i x hx j hj => (hrr i x hx j hj).weaken hZ⟩)
    | @own0 k p r R G ht =>
      simp only [land] at h
      cases h1 : land d r (m ++ [.row 0 k []]) with
      | none => simp [h1] at h
      | some q =>
        obtain ⟨r', m2⟩ := q
        simp only [h1, Option.some.injEq, Prod.mk.injEq] at h
        obtain ⟨rfl, rfl⟩ := h
        have := cons (bs0 := [.row 0 k []]) (Ls0 := [.row none 0 (wid k)]) (F0 := []) (V := .slice p 0 0) (v' := .ms m.length 0 0 ([] : List (T k)).length) h1 ht rfl rfl (.refl _) (fun L Z2 hL hZ => by
          have hLb : (L ++ [LB.row none 0 (wid k)])[m.length]? = some (.row none 0 (wid k)) := by rw [← hL]; simp
          refine ⟨.ms0 m.length 0 (wid k) p (.inl hLb), fun j x hx => ?_⟩
          cases j with
          | succ j => simp at hx
          | zero =>
            simp only [List.getElem?_cons_zero, Option.some.injEq] at hx
            subst hx
            exact ⟨rfl, rfl, rfl⟩)
        simpa using this
    | @agg cs C r R F1 G hc ht =>
      simp only [land] at h
      cases h1 : land d cs m with
      | none => simp [h1] at h
      | some q =>
        obtain ⟨cs', m1⟩ := q
        cases h2 : land d r m1 with
        | none => simp [h1, h2] at h
        | some q =>
          obtain ⟨r', m2⟩ := q
          simp only [h1, h2, Option.some.injEq, Prod.mk.injEq] at h
          obtain ⟨rfl, rfl⟩ := h
          obtain ⟨bs, Ls, e, e1, e2, e3, e4⟩ := ih cs m cs' m1 C.toList F1 h1 hc
          exact cons (v' := .agg cs') (V := .agg C) h2 ht e e1 e2 (fun L Z2 hL hZ => by
            obtain ⟨c1, c2⟩ := e4 L Z2 hL hZ
            exact ⟨.agg cs' C (by simpa using e3.symm) (fun j hj => by simpa [Array.getD_eq_getD_getElem?] using c1 j hj), c2⟩)
    | @tup cs C r R F1 G hc ht =>
      simp only [land] at h
      cases h1 : land d cs m with
      | none => simp [h1] at h
      | some q =>
        obtain ⟨cs', m1⟩ := q
        cases h2 : land d r m1 with
        | none => simp [h1, h2] at h
        | some q =>
          obtain ⟨r', m2⟩ := q
          simp only [h1, h2, Option.some.injEq, Prod.mk.injEq] at h
          obtain ⟨rfl, rfl⟩ := h
          obtain ⟨bs, Ls, e, e1, e2, e3, e4⟩ := ih cs m cs' m1 C.toList F1 h1 hc
          exact cons (v' := .tup cs') (V := .tuple C) h2 ht e e1 e2 (fun L Z2 hL hZ => by
            obtain ⟨c1, c2⟩ := e4 L Z2 hL hZ
            exact ⟨.tup cs' C (by simpa using e3.symm) (fun j hj => by simpa [Array.getD_eq_getD_getElem?] using c1 j hj), c2⟩)
    | @box cs b C t r R F1 G hh hc ht =>
      simp only [land] at h
      cases h1 : land d cs m with
      | none => simp [h1] at h
      | some q =>
        obtain ⟨cs', m1⟩ := q
        cases h2 : land d r (m1 ++ [.cells cs']) with
        | none => simp [h1, h2] at h
        | some q =>
          obtain ⟨r', m2⟩ := q
          simp only [h1, h2, Option.some.injEq, Prod.mk.injEq] at h
          obtain ⟨rfl, rfl⟩ := h
          obtain ⟨bs, Ls, e, e1, e2, e3, e4⟩ := ih cs m cs' m1 C.toList F1 h1 hc
          have hp : ((Ls ++ [LB.cell b]).filterMap blkOf).Perm (b :: F1) := by
            rw [List.filterMap_append]
            exact (List.perm_append_comm).trans (List.Perm.cons b e2)
          exact cons (v' := .ptr m1.length 0) (V := .pointer (some ⟨b, 0, none⟩)) (bs0 := bs ++ [.cells cs']) (Ls0 := Ls ++ [.cell b]) (F0 := b :: F1) h2 ht (by rw [e, List.append_assoc]) (by simp [e1]) hp (fun L Z2 hL hZ => by
            obtain ⟨c1, c2⟩ := e4 L Z2 hL hZ
            refine ⟨.ptr _ 0 b (.inl ?_), fun j x hx => ?_⟩
            · have : m1.length = (L ++ Ls).length := by rw [e]; simp [hL, e1]
              rw [this, ← List.append_assoc]
              simp
            · rw [← List.append_assoc]
              by_cases hj : j < Ls.length
              · rw [List.getElem?_append_left hj] at hx
                rw [bnth_app_left (by omega)]
                exact (c2 j x hx).append
              · have hj2 : j = Ls.length := by
                  have := (List.getElem?_eq_some_iff.1 hx).1
                  simp at this
                  omega
                subst hj2
                simp at hx
                subst hx
                rw [e1, bnth_app_new]
                exact ⟨C, t, hh, by simpa using e3.symm, fun j hj => by
                  have := (c1 j hj).append (L2 := [LB.cell b])
                  simpa [Array.getD_eq_getD_getElem?] using this⟩)

def outsV : List Mode → List Value → List Value
  | md :: ms, v :: vs => match wrote md with
    | true => v :: outsV ms vs
    | false => outsV ms vs
  | _, _ => []

/-- What is laid back. -/
theorem back_sound {bl : Nat → Option Nat} : ∀ (ms : List Mode) (vs outs : List AV) (m m' : List Blk) (Vs : List Value) (F : List Nat), back ms vs outs m = some m' → RepL w Z outs (outsV ms Vs) F → Vs.length = vs.length → F.Nodup → (∀ i b, bl i = some b → i < m.length) →
    (∀ (j : Nat) (ms' : List Mode) (id off : Nat), ms[j]? = some (.box ms') → vs[j]? = some (.ptr id off) → ∃ b, Vs[j]? = some (.pointer (some ⟨b, 0, none⟩)) ∧ bl id = some b) →
    ∃ (bs : List Blk) (Ls : List LB) (rv : List Nat), m'.length = m.length + bs.length ∧ Ls.length = bs.length ∧ (∀ i, i < m.length → i ∉ rv → bnth m' i = bnth m i) ∧ (rv.filterMap bl ++ Ls.filterMap blkOf).Perm F ∧ (∀ i ∈ rv, ∃ b, bl i = some b) ∧
      ∀ (L : List LB) (Z2 : Nat → Prop), L.length = m.length → (∀ b, Z2 b → Z b) → (∀ i ∈ rv, ∀ b, bl i = some b → BlkRep w (L ++ Ls) Z2 (.cell b) (bnth m' i)) ∧ ∀ j x, Ls[j]? = some x → BlkRep w (L ++ Ls) Z2 x (bnth m' (m.length + j)) := by
  intro ms
  induction ms with
  | nil =>
    intro vs outs m m' Vs F h hr hl hnd hlt hbox
    cases vs with
    | cons v vs => simp [back] at h
    | nil =>
      cases outs with
      | cons o os => simp [back] at h
      | nil =>
        simp only [back, Option.some.injEq] at h
        subst h
        cases hr
        exact ⟨[], [], [], rfl, rfl, fun i _ _ => rfl, .refl _, fun i hi => by simp at hi, fun L Z2 _ _ => ⟨fun i hi => by simp at hi, fun j x hx => by simp at hx⟩⟩
  | cons md ms ih =>
    intro vs outs m m' Vs F h hr hl hnd hlt hbox
    cases vs with
    | nil => simp [back] at h
    | cons v vs =>
      cases Vs with
      | nil => simp at hl
      | cons V Vs =>
        have hbt : ∀ (j : Nat) (ms' : List Mode) (id off : Nat), ms[j]? = some (.box ms') → vs[j]? = some (.ptr id off) → ∃ b, Vs[j]? = some (.pointer (some ⟨b, 0, none⟩)) ∧ bl id = some b :=
          fun j ms' id off h1 h2 => hbox (j + 1) ms' id off h1 h2
        have other : wrote md = false → back ms vs outs m = some m' → ∃ (bs : List Blk) (Ls : List LB) (rv : List Nat), m'.length = m.length + bs.length ∧ Ls.length = bs.length ∧ (∀ i, i < m.length → i ∉ rv → bnth m' i = bnth m i) ∧ (rv.filterMap bl ++ Ls.filterMap blkOf).Perm F ∧ (∀ i ∈ rv, ∃ b, bl i = some b) ∧
            ∀ (L : List LB) (Z2 : Nat → Prop), L.length = m.length → (∀ b, Z2 b → Z b) → (∀ i ∈ rv, ∀ b, bl i = some b → BlkRep w (L ++ Ls) Z2 (.cell b) (bnth m' i)) ∧ ∀ j x, Ls[j]? = some x → BlkRep w (L ++ Ls) Z2 x (bnth m' (m.length + j)) := by
          intro hw hb
          simp only [outsV, hw] at hr
          exact ih vs outs m m' Vs F hb hr (by simpa using hl) hnd hlt hbt
        simp only [back] at h
        cases md with
        | mrow k => simp at h
        | v => exact other rfl h
        | fn => exact other rfl h
        | imm k => exact other rfl h
        | own k => exact other rfl h
        | agg ms2 => exact other rfl h
        | tup ms2 => exact other rfl h
        | box ms2 =>
          cases v <;> simp only at h <;> try (simp at h; done)
          rename_i id off
          obtain ⟨b0, hV, hbl⟩ := hbox 0 ms2 id off rfl rfl
          simp only [List.getElem?_cons_zero, Option.some.injEq] at hV
          subst hV
          cases outs with
          | nil => simp at h
          | cons o os =>
            cases o <;> simp only at h <;> try (simp at h; done)
            rename_i cs
            cases h1 : land 64 cs m with
            | none => simp [h1] at h
            | some q =>
              obtain ⟨cs', m1⟩ := q
              simp only [h1] at h
              simp only [outsV, wrote] at hr
              cases hr with
              | plain hv ht => cases hv
              | @box _ _ C t _ _ F1 G hh hc ht =>
                obtain ⟨bs1, Ls1, e, e1, e2, e3, e4⟩ := land_sound 64 cs m cs' m1 C.toList F1 h1 hc
                have hnd' := hnd
                rw [List.nodup_cons, List.nodup_append] at hnd'
                obtain ⟨n1, n2, n3, n4⟩ := hnd'
                have hlen1 : (setB m1 id (.cells cs')).length = m.length + bs1.length := by rw [length_setB, e]; simp
                obtain ⟨bs2, Ls2, rv, f1, f2, f3, f4, f5, f6⟩ := ih vs os (setB m1 id (.cells cs')) m' Vs G h ht (by simpa using hl) n3 (fun i b hb => by rw [hlen1]; have := hlt i b hb; omega) hbt
                have hid : id < m.length := hlt id b0 hbl
                have hidrv : id ∉ rv := by
                  intro hin
                  have : b0 ∈ G := f4.subset (by simp only [List.mem_append, List.mem_filterMap]; exact .inl ⟨id, hin, hbl⟩)
                  exact n1 (by simp [this])
                have hat : bnth m' id = .cells cs' := by
                  rw [f3 id (by omega) hidrv]
                  exact bnth_setB_same (by rw [e]; simp; omega)
                refine ⟨bs1 ++ bs2, Ls1 ++ Ls2, id :: rv, by rw [f1, hlen1]; simp; omega, by simp [e1, f2], fun i hi hin => ?_, ?_, fun i hi => ?_, fun L Z2 hL hZ => ?_⟩
                · simp only [List.mem_cons, not_or] at hin
                  rw [f3 i (by omega) hin.2, bnth_setB_other (fun e => hin.1 e.symm), e, bnth_app_left hi]
                · rw [List.filterMap_cons, hbl, List.filterMap_append, List.cons_append]
                  refine List.Perm.cons b0 ?_
                  refine List.Perm.trans ?_ (e2.append f4)
                  rw [← List.append_assoc, ← List.append_assoc]
                  exact List.Perm.append_right _ List.perm_append_comm
                · rcases List.mem_cons.1 hi with rfl | hi
                  · exact ⟨b0, hbl⟩
                  · exact f5 i hi
                · obtain ⟨c1, c2⟩ := e4 L Z2 hL hZ
                  obtain ⟨g1, g2⟩ := f6 (L ++ Ls1) Z2 (by rw [hlen1]; simp [hL, e1]) hZ
                  rw [List.append_assoc] at g1 g2
                  refine ⟨fun i hi b hb => ?_, fun j x hx => ?_⟩
                  · rcases List.mem_cons.1 hi with rfl | hi
                    · rw [hbl, Option.some.injEq] at hb
                      subst hb
                      rw [hat]
                      refine ⟨C, t, hh, by simpa using e3.symm, fun j hj => ?_⟩
                      have := (c1 j hj).append (L2 := Ls2)
                      rw [List.append_assoc] at this
                      simpa [Array.getD_eq_getD_getElem?] using this
                    · exact g1 i hi b hb
                  · by_cases hj : j < Ls1.length
                    · rw [List.getElem?_append_left hj] at hx
                      have hnr : m.length + j ∉ rv := by
                        intro hin
                        obtain ⟨b, hb⟩ := f5 _ hin
                        have := hlt _ b hb
                        omega
                      rw [f3 _ (by omega) hnr, bnth_setB_other (by omega), e, bnth_append_right, ← List.append_assoc]
                      exact (c2 j x hx).append
                    · rw [List.getElem?_append_right (by omega)] at hx
                      have := g2 _ x hx
                      have ej : (setB m1 id (.cells cs')).length + (j - Ls1.length) = m.length + j := by omega
                      rw [ej] at this
                      exact this

end land

end Go.Proofs.Ytbiefokigponpaa
