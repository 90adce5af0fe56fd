/- A call by its contract. -/
import Derived.Test.YtbiefokigponpaaAmV
namespace Go.Proofs.Ytbiefokigponpaa
set_option linter.unusedVariables false
set_option linter.unusedSimpArgs false

/-- The program's function does what the contract says. -/
def Sound (P : Program) (f : FuncId) (c : Con) : Prop :=
  (∃ fn, P.funcs[f]? = some fn ∧ fn.name ≠ "runtime.NumGoroutine" ∧ fn.body.isSome = true) ∧
  ∀ (as : List AV) (out : AV) (outs : List AV), c.run as = some (out, outs) → ∀ (w : World) (Vs : List Value) (F : List Nat) (X : Nat → Prop), RepL w (fun b => X b ∨ b ∈ F) as Vs F → F.Nodup → (∀ b ∈ F, ¬ X b) → (∀ b, X b → b < w.heap.size) →
    Calls P f Vs.toArray w fun e w' => ∃ V F', e = .returned V ∧ RepL w' (fun b => c.leaks = false ∨ X b ∨ b ∈ F') (out :: outs) (V :: outsV c.ms Vs) F' ∧ F'.Nodup ∧ (∀ b ∈ F', b ∈ F ∨ w.heap.size ≤ b) ∧ Frame w w' (· ∈ F)

theorem RepL.cons_inv {w : World} {Z : Nat → Prop} {v : AV} {r : List AV} {V : Value} {R : List Value} {F : List Nat} (h : RepL w Z (v :: r) (V :: R) F) : ∃ F1 F2, F = F1 ++ F2 ∧ RepL w Z [v] [V] F1 ∧ RepL w Z r R F2 := by
  cases h with
  | plain h t => exact ⟨[], _, rfl, .plain h .nil, t⟩
  | @own _ _ _ b _ _ _ h t => exact ⟨[b], _, rfl, .own h .nil, t⟩
  | own0 t => exact ⟨[], _, rfl, .own0 .nil, t⟩
  | @box cs b C t r R F G h hc ht => exact ⟨b :: (F ++ []), G, by simp, .box h hc .nil, ht⟩
  | @agg cs C r R F G hc ht => exact ⟨F ++ [], G, by simp, .agg hc .nil, ht⟩
  | @tup cs C r R F G hc ht => exact ⟨F ++ [], G, by simp, .tup hc .nil, ht⟩

theorem memN_iff {x : Nat} : ∀ {l : List Nat}, memN x l = false → x ∉ l := by
  intro l
  induction l with
  | nil => intro _ h; simp at h
  | cons y r ih =>
    intro h
    simp only [memN] at h
    cases he : eqN x y with
    | true => simp [he] at h
    | false =>
      simp only [he] at h
      simp only [List.mem_cons, not_or]
      refine ⟨fun e => ?_, ih h⟩
      have := eqN_iff.2 e
      rw [he] at this
      cases this

theorem noTwice_nodup : ∀ {ids : List Nat}, noTwice ids = true → ids.Nodup := by
  intro ids
  induction ids with
  | nil => intro _; exact .nil
  | cons i r ih =>
    intro h
    simp only [noTwice] at h
    cases hm : memN i r with
    | true => simp [hm] at h
    | false =>
      simp only [hm] at h
      exact List.nodup_cons.2 ⟨memN_iff hm, ih h⟩

theorem bOf_some {L : List LB} {i b : Nat} (h : bOf L i = some b) : ∃ x, L[i]? = some x ∧ x.owns b := by
  unfold bOf at h
  cases hx : L[i]? with
  | none => simp [hx] at h
  | some x => exact ⟨x, rfl, owns_iff.2 (by simpa [hx] using h)⟩

theorem fm_inj : ∀ {Ls : List LB} {i j : Nat} {x y : LB} {b : Nat}, (Ls.filterMap blkOf).Nodup → Ls[i]? = some x → Ls[j]? = some y → blkOf x = some b → blkOf y = some b → i = j := by
  intro Ls
  induction Ls with
  | nil => intro i j x y b _ h; simp at h
  | cons z Ls ih =>
    intro i j x y b hn hi hj hx hy
    have hn2 : (Ls.filterMap blkOf).Nodup := by
      rw [List.filterMap_cons] at hn
      split at hn
      · exact hn
      · exact (List.nodup_cons.1 hn).2
    have hmem : ∀ (k : Nat) (u : LB), Ls[k]? = some u → blkOf u = some b → blkOf z ≠ some b := by
      intro k u hk hu hz
      rw [List.filterMap_cons, hz] at hn
      exact (List.nodup_cons.1 hn).1 (List.mem_filterMap.2 ⟨u, List.mem_of_getElem? hk, hu⟩)
    cases i with
    | zero =>
      simp only [List.getElem?_cons_zero, Option.some.injEq] at hi
      subst hi
      cases j with
      | zero => rfl
      | succ j => exact absurd hx (hmem j y (by simpa using hj) hy)
    | succ i =>
      cases j with
      | zero =>
        simp only [List.getElem?_cons_zero, Option.some.injEq] at hj
        subst hj
        exact absurd hy (hmem i x (by simpa using hi) hx)
      | succ j => exact congrArg (· + 1) (ih hn2 (by simpa using hi) (by simpa using hj) hx hy)

theorem conv_box {res : Bool} {m m' : List Blk} : ∀ (d : Nat) (ms : List Mode) (vs as : List AV), conv res m m' d ms vs = some as → ∀ (j : Nat) (ms' : List Mode) (id off : Nat), ms[j]? = some (.box ms') → vs[j]? = some (.ptr id off) → off = 0 ∧ ∃ cs, bnth m id = .cells cs := by
  intro d
  induction d with
  | zero => intro ms vs as h; simp [conv] at h
  | succ d ih =>
    intro ms vs as h j ms' id off h1 h2
    cases ms with
    | nil => simp at h1
    | cons md ms =>
      cases vs with
      | nil => simp at h2
      | cons v vs =>
        simp only [conv] at h
        cases hc : conv res m m' d ms vs with
        | none => simp [hc] at h
        | some r =>
          cases j with
          | succ j => exact ih ms vs r hc j ms' id off (by simpa using h1) (by simpa using h2)
          | zero =>
            simp only [List.getElem?_cons_zero, Option.some.injEq] at h1 h2
            subst h1 h2
            simp only [hc] at h
            cases off with
            | succ off => simp at h
            | zero =>
              simp only at h
              cases hm : bnth m id with
              | dead => simp [hm] at h
              | row v k l => simp [hm] at h
              | cells cs => exact ⟨rfl, cs, rfl⟩

section calls
variable {P : Program} {w0 : World} {F0 X0 : Nat → Prop} {m : List Blk} {L : List LB} {w : World}

theorem fm_nodup (hs : SimM w0 F0 X0 m L w) : ∀ {ids : List Nat}, ids.Nodup → (ids.filterMap (bOf L)).Nodup := by
  intro ids
  induction ids with
  | nil => intro _; exact .nil
  | cons i r ih =>
    intro h
    obtain ⟨h1, h2⟩ := List.nodup_cons.1 h
    rw [List.filterMap_cons]
    split
    · exact ih h2
    · rename_i b hb
      refine List.nodup_cons.2 ⟨fun hin => ?_, ih h2⟩
      obtain ⟨j, hj, hbj⟩ := List.mem_filterMap.1 hin
      obtain ⟨x, hx, ox⟩ := bOf_some hb
      obtain ⟨y, hy, oy⟩ := bOf_some hbj
      exact h1 (hs.inj i j x y b hx hy ox oy ▸ hj)

def lentL (L : List LB) (kl rv : List Nat) : List LB := (List.range L.length).map fun i => if i ∈ kl ∧ i ∉ rv then .dead else L[i]?.getD .dead

theorem lentL_length {L : List LB} {kl rv : List Nat} : (lentL L kl rv).length = L.length := by simp [lentL]

theorem lentL_get {L : List LB} {kl rv : List Nat} {i : Nat} {x : LB} (h : (lentL L kl rv)[i]? = some x) : i < L.length ∧ (((i ∈ kl ∧ i ∉ rv) ∧ x = .dead) ∨ (¬ (i ∈ kl ∧ i ∉ rv) ∧ L[i]? = some x)) := by
  have hi := (List.getElem?_eq_some_iff.1 h).1
  rw [lentL_length] at hi
  refine ⟨hi, ?_⟩
  simp only [lentL, List.getElem?_map, List.getElem?_range hi, Option.map_some, Option.some.injEq] at h
  split at h
  · exact .inl ⟨by assumption, h.symm⟩
  · refine .inr ⟨by assumption, ?_⟩
    rw [List.getElem?_eq_getElem hi] at h ⊢
    simpa using h

theorem lentL_le {L : List LB} {kl rv : List Nat} {i : Nat} {x : LB} (h : L[i]? = some x) : ∃ y, (lentL L kl rv)[i]? = some y ∧ LE x y := by
  have hi := (List.getElem?_eq_some_iff.1 h).1
  simp only [lentL, List.getElem?_map, List.getElem?_range hi, Option.map_some]
  refine ⟨_, rfl, ?_⟩
  split
  · exact .inr (.inl rfl)
  · rw [h]; exact .refl x

set_option maxHeartbeats 800000 in
theorem call_sound (hs : SimM w0 F0 X0 m L w) {f : FuncId} {c : Con} (hS : Sound P f c) {vs : List AV} {Vs : List Value} (hl : Vs.length = vs.length) (hr : ∀ j, j < vs.length → RepV w L (ZZ X0 L) (nth vs j) (Vs[j]?.getD Go.undef))
    {v : AV} {m' : List Blk} (hv : callA c vs m = some (v, m')) :
    Calls P f Vs.toArray w fun e w' => ∃ V L', e = .returned V ∧ SimM w0 F0 X0 m' L' w' ∧ Ext w L (ZZ X0 L) w' L' (ZZ X0 L') ∧ RepV w' L' (ZZ X0 L') v V := by
  unfold callA hand at hv
  cases htk : taken m 64 c.ms vs with
  | none => simp [htk] at hv
  | some ids =>
    simp only [htk] at hv
    cases htw : noTwice ids with
    | false => simp [htw] at hv
    | true =>
      simp only [htw] at hv
      cases hcv : conv false m (killAll m ids) 64 c.ms vs with
      | none => simp [hcv] at hv
      | some as =>
        simp only [hcv] at hv
        cases hrun : c.run as with
        | none => simp [hrun] at hv
        | some ro =>
          obtain ⟨r, outs⟩ := ro
          simp only [hrun] at hv
          cases hln : lent c m (killAll m ids) vs with
          | none => simp [hln] at hv
          | some m2 =>
            simp only [hln] at hv
            cases hbk : back c.ms vs outs m2 with
            | none => simp [hbk] at hv
            | some m3 =>
              simp only [hbk] at hv
              cases hld : land 64 [r] m3 with
              | none => simp [hld] at hv
              | some q =>
                obtain ⟨q, m4⟩ := q
                have hq : q = [v] ∧ m4 = m' := by
                  rw [hld] at hv
                  cases q with
                  | nil => simp at hv
                  | cons u q => cases q with
                    | nil => simp only [Option.some.injEq, Prod.mk.injEq] at hv; exact ⟨by rw [hv.1], hv.2⟩
                    | cons u' q => simp at hv
                obtain ⟨rfl, rfl⟩ := hq
                clear hv
                -- what is lent
                have hlent : ∃ is, (c.leaks = true → idsOf m 64 vs = some is) ∧ m2 = killAll (killAll m ids) is := by
                  unfold lent at hln
                  cases hlk : c.leaks with
                  | false =>
                    simp only [hlk, Option.some.injEq] at hln
                    exact ⟨[], fun h => by simp at h, hln.symm⟩
                  | true =>
                    simp only [hlk] at hln
                    cases hid : idsOf m 64 vs with
                    | none => simp [hid] at hln
                    | some is =>
                      simp only [hid, Option.some.injEq] at hln
                      exact ⟨is, fun _ => rfl, hln.symm⟩
                obtain ⟨is, his, rfl⟩ := hlent
                have hkill : ∀ i, bnth (killAll (killAll m ids) is) i = if i ∈ ids ++ is then .dead else bnth m i := by
                  intro i
                  rw [killAll_bnth, killAll_bnth]
                  by_cases h1 : i ∈ is <;> by_cases h2 : i ∈ ids <;> simp [h1, h2]
                have hids := noTwice_nodup htw
                let Xc : Nat → Prop := fun b => X0 b ∨ (c.leaks = true ∧ ∃ id x, id ∉ ids ∧ id ∉ is ∧ L[id]? = some x ∧ x.owns b)
                let Zc : Nat → Prop := fun b => Xc b ∨ ∃ id x, id ∈ ids ∧ L[id]? = some x ∧ x.owns b
                have hZ1 : ∀ b, Zc b → ZZ X0 L b := by
                  rintro b ((h | ⟨_, id, x, _, _, h1, h2⟩) | ⟨id, x, _, h1, h2⟩)
                  · exact .inl h
                  · exact .inr ⟨id, x, h1, h2⟩
                  · exact .inr ⟨id, x, h1, h2⟩
                have hZ2 : ∀ (id : Nat) (x : LB) (b : Nat), id ∉ ids → (c.leaks = true → id ∈ is) → L[id]? = some x → x.owns b → ¬ Zc b := by
                  rintro id x b h1 h2 hx ho ((h | ⟨h3, id2, y, h4, h5, hy, hoy⟩) | ⟨id2, y, h4, hy, hoy⟩)
                  · exact hs.nx id x b hx ho h
                  · exact h5 (hs.inj id id2 x y b hx hy ho hoy ▸ h2 h3)
                  · exact h1 (hs.inj id id2 x y b hx hy ho hoy ▸ h4)
                have hNm : Nm (fun id => c.leaks = true → id ∈ is) m vs := by
                  cases hlk : c.leaks with
                  | false => exact .inl (fun i h => by simp at h)
                  | true => exact .inr ⟨64, is, his hlk, fun i hi _ => hi⟩
                obtain ⟨F, hRL, hsub⟩ := conv_sound (ids := ids) (N := fun id => c.leaks = true → id ∈ is) (Zc := Zc) hs false 64 c.ms vs as ids Vs hcv htk hNm hl hr (.inl ⟨hZ1, hZ2⟩)
                have hFown : ∀ b ∈ F, ∃ id x, id ∈ ids ∧ L[id]? = some x ∧ x.owns b := by
                  intro b hb
                  obtain ⟨id, hid, hbo⟩ := List.mem_filterMap.1 (hsub.subset hb)
                  obtain ⟨x, hx, ox⟩ := bOf_some hbo
                  exact ⟨id, x, hid, hx, ox⟩
                have hFnd : F.Nodup := hsub.nodup (fm_nodup hs hids)
                have hFX : ∀ b ∈ F, ¬ Xc b := by
                  rintro b hb (h | ⟨_, id2, y, h4, h5, hy, hoy⟩)
                  · obtain ⟨id, x, _, hx, ox⟩ := hFown b hb
                    exact hs.nx id x b hx ox h
                  · obtain ⟨id, x, hid, hx, ox⟩ := hFown b hb
                    exact h4 (hs.inj id id2 x y b hx hy ox hoy ▸ hid)
                have hXl : ∀ b, Xc b → b < w.heap.size := by
                  rintro b (h | ⟨_, id2, y, h4, h5, hy, hoy⟩)
                  · exact hs.xl b h
                  · exact hs.lt hy hoy
                refine Calls.mono (hS.2 as r outs hrun w Vs F Xc (hRL.mono (fun b hb => ?_)) hFnd hFX hXl) ?_
                · rcases hb with hb | hb
                  · exact .inl hb
                  · exact .inr (hFown b hb)
                rintro e w' ⟨V, F', rfl, hrep, hnd', hF', hfr⟩
                obtain ⟨F1, F2, rfl, hR1, hR2⟩ := hrep.cons_inv
                rw [List.nodup_append] at hnd'
                obtain ⟨nd1, nd2, nd3⟩ := hnd'
                -- what is laid back
                let bl : Nat → Option Nat := fun i => match L[i]? with | some (.cell b) => some b | _ => none
                have hbl : ∀ i b, bl i = some b → L[i]? = some (.cell b) := by
                  intro i b h
                  simp only [bl] at h
                  split at h
                  · rename_i b' hb'
                    simp only [Option.some.injEq] at h
                    rw [hb', h]
                  · simp at h
                have hm2l : (killAll (killAll m ids) is).length = m.length := by rw [killAll_length, killAll_length]
                obtain ⟨bs1, Ls1, rv, f1, f2, f3, f4, f5, f6⟩ := back_sound (bl := bl) c.ms vs outs _ m3 Vs F2 hbk hR2 hl nd2 (fun i b hb => by
                    rw [hm2l, ← hs.ll]
                    exact (List.getElem?_eq_some_iff.1 (hbl i b hb)).1) (fun j ms' id off h1 h2 => by
                    obtain ⟨rfl, cs, hcs⟩ := conv_box 64 c.ms vs as hcv j ms' id off h1 h2
                    have hj := (List.getElem?_eq_some_iff.1 h2).1
                    have hjr := hr j hj
                    rw [nth_of h2] at hjr
                    obtain ⟨b, e, hL⟩ := hjr.ptr_inv
                    rcases hL with hL | hL
                    · refine ⟨b, ?_, by simp [bl, hL]⟩
                      rw [List.getElem?_eq_getElem (by omega)] at e ⊢
                      simpa using e
                    · have := blk_dead hs hL hcs
                      simp at this)
                obtain ⟨bs2, Ls2, g1, g2, g3, g4, g5⟩ := land_sound 64 [r] m3 [v] m4 [V] F1 hld hR1
                have hlm3 : m3.length = m.length + bs1.length := by rw [f1, hm2l]
                have hall : ∀ b, b ∈ F1 ∨ b ∈ F2 → b ∈ F ∨ w.heap.size ≤ b := fun b hb => hF' b (List.mem_append.2 hb)
                have hrvids : ∀ i ∈ rv, i ∈ ids := by
                  intro i hi
                  obtain ⟨b, hb⟩ := f5 i hi
                  have hLi := hbl i b hb
                  have hbF : b ∈ F2 := f4.subset (List.mem_append.2 (.inl (List.mem_filterMap.2 ⟨i, hi, hb⟩)))
                  rcases hall b (.inr hbF) with h | h
                  · obtain ⟨id, x, hid, hx, ox⟩ := hFown b h
                    exact hs.inj i id _ x b hLi hx rfl ox ▸ hid
                  · have := hs.lt hLi (b := b) rfl
                    omega
                let Lb := lentL L (ids ++ is) rv
                let Lf := Lb ++ (Ls1 ++ Ls2)
                have hLbl : Lb.length = m.length := by rw [← hs.ll]; exact lentL_length
                -- who owns what
                have hnew : ∀ (j : Nat) (x : LB) (b : Nat), (Ls1 ++ Ls2)[j]? = some x → x.owns b → b ∈ F1 ∨ b ∈ F2 := by
                  intro j x b hx ho
                  have hmem := List.mem_of_getElem? hx
                  rcases List.mem_append.1 hmem with h | h
                  · exact .inr (f4.subset (List.mem_append.2 (.inr (List.mem_filterMap.2 ⟨x, h, owns_iff.1 ho⟩))))
                  · exact .inl (g3.subset (List.mem_filterMap.2 ⟨x, h, owns_iff.1 ho⟩))
                have hndall : (rv.filterMap bl ++ (Ls1 ++ Ls2).filterMap blkOf).Nodup := by
                  rw [List.filterMap_append, ← List.append_assoc]
                  have hp : (rv.filterMap bl ++ Ls1.filterMap blkOf ++ Ls2.filterMap blkOf).Perm (F1 ++ F2) := (f4.append g3).trans List.perm_append_comm
                  exact hp.nodup_iff.2 (List.nodup_append.2 ⟨nd1, nd2, nd3⟩)
                obtain ⟨ndr, ndn, ndx⟩ := List.nodup_append.1 hndall
                have hold : ∀ (i : Nat) (x : LB) (b : Nat), Lb[i]? = some x → x.owns b → L[i]? = some x ∧ (i ∈ rv ∨ (i ∉ ids ∧ i ∉ is)) := by
                  intro i x b hx ho
                  obtain ⟨hi, h | ⟨h1, h2⟩⟩ := lentL_get hx
                  · rw [h.2] at ho
                    exact ho.elim
                  · refine ⟨h2, ?_⟩
                    by_cases hrv : i ∈ rv
                    · exact .inl hrv
                    · right
                      simp only [List.mem_append, hrv, not_false_eq_true, and_true, not_or] at h1
                      exact h1
                have hsplit : ∀ (i : Nat) (x : LB), Lf[i]? = some x → Lb[i]? = some x ∨ (m.length ≤ i ∧ (Ls1 ++ Ls2)[i - m.length]? = some x) := by
                  intro i x hx
                  by_cases hi : i < Lb.length
                  · left
                    rw [List.getElem?_append_left hi] at hx
                    exact hx
                  · right
                    rw [List.getElem?_append_right (by omega), hLbl] at hx
                    exact ⟨by omega, hx⟩
                have hOwnF : ∀ b, Owns Lf b → (∃ i x, L[i]? = some x ∧ x.owns b ∧ (i ∈ rv ∨ (i ∉ ids ∧ i ∉ is))) ∨ b ∈ F1 ∨ b ∈ F2 := by
                  rintro b ⟨i, x, hx, ho⟩
                  rcases hsplit i x hx with h | ⟨_, h⟩
                  · obtain ⟨h1, h2⟩ := hold i x b h ho
                    exact .inl ⟨i, x, h1, ho, h2⟩
                  · exact .inr (hnew _ x b h ho)
                have hrvF : ∀ (i : Nat) (x : LB) (b : Nat), L[i]? = some x → x.owns b → i ∈ rv → b ∈ rv.filterMap bl := by
                  intro i x b hx ho hi
                  obtain ⟨b', hb'⟩ := f5 i hi
                  have := hbl i b' hb'
                  rw [this, Option.some.injEq] at hx
                  subst hx
                  have hbb : b' = b := ho
                  subst hbb
                  exact List.mem_filterMap.2 ⟨i, hi, hb'⟩
                have hZr : ∀ b, ZZ X0 Lf b → c.leaks = false ∨ Xc b ∨ b ∈ F1 ++ F2 := by
                  intro b hb
                  cases hlk : c.leaks with
                  | false => exact .inl rfl
                  | true =>
                    right
                    rcases hb with hb | hb
                    · exact .inl (.inl hb)
                    · rcases hOwnF b hb with ⟨i, x, hx, ho, h | ⟨h1, h2⟩⟩ | h
                      · exact .inr (List.mem_append.2 (.inr (f4.subset (List.mem_append.2 (.inl (hrvF i x b hx ho h))))))
                      · exact .inl (.inr ⟨hlk, i, x, h1, h2, hx, ho⟩)
                      · exact .inr (List.mem_append.2 h)
                have hFZ : ∀ b ∈ F, Owns L b := fun b hb => by
                  obtain ⟨id, x, _, hx, ox⟩ := hFown b hb
                  exact ⟨id, x, hx, ox⟩
                have hExt : Ext w L (ZZ X0 L) w' Lf (ZZ X0 Lf) := by
                  refine ⟨hfr.size, fun b hb hz => hfr.same b hb (fun h => hz (.inr (hFZ b h))), hfr.sz, fun b hb => ?_, fun i x hx => ?_⟩
                  · rcases hb with hb | hb
                    · exact .inl (.inl hb)
                    · rcases hOwnF b hb with ⟨i, x, hx, ho, _⟩ | h
                      · exact .inl (.inr ⟨i, x, hx, ho⟩)
                      · rcases hall b h with h | h
                        · exact .inl (.inr (hFZ b h))
                        · exact .inr h
                  · obtain ⟨y, hy, hle⟩ := lentL_le (kl := ids ++ is) (rv := rv) hx
                    exact ⟨y, by rw [List.getElem?_append_left (List.getElem?_eq_some_iff.1 hy).1]; exact hy, hle⟩
                obtain ⟨k1, k2⟩ := f6 Lb (ZZ X0 Lf) (by rw [hLbl, hm2l]) hZr
                obtain ⟨j1, j2⟩ := g5 (Lb ++ Ls1) (ZZ X0 Lf) (by simp [hLbl, hlm3, f2]) hZr
                have hSim : SimM w0 F0 X0 m4 Lf w' := by
                  refine ⟨?_, ?_, ?_, ?_, ?_, ?_, ?_⟩
                  · simp only [Lf, List.length_append, hLbl, g1, hlm3, f2, g2]
                    omega
                  · intro i x hx
                    rcases hsplit i x hx with h | ⟨hi, h⟩
                    · obtain ⟨hi, hc⟩ := lentL_get h
                      rw [hs.ll] at hi
                      have hb4 : bnth m4 i = bnth m3 i := by rw [g1]; exact bnth_app_left (by omega)
                      rcases hc with ⟨⟨hk, hnr⟩, rfl⟩ | ⟨hk, hL⟩
                      · rw [hb4, f3 i (by omega) hnr, hkill, if_pos hk]
                        trivial
                      · by_cases hir : i ∈ rv
                        · obtain ⟨b, hb⟩ := f5 i hir
                          have := hbl i b hb
                          rw [this, Option.some.injEq] at hL
                          subst hL
                          rw [hb4]
                          have := (k1 i hir b hb).append (L2 := Ls2)
                          rw [List.append_assoc] at this
                          exact this
                        · have hnk : i ∉ ids ++ is := fun h => hk ⟨h, hir⟩
                          rw [hb4, f3 i (by omega) hir, hkill, if_neg hnk]
                          refine (hs.blk i x hL).ext hExt (fun b ho => hfr.same b (hs.lt hL ho) (fun hbF => ?_))
                          obtain ⟨id, y, hid, hy, oy⟩ := hFown b hbF
                          exact hnk (List.mem_append.2 (.inl (hs.inj i id x y b hL hy ho oy ▸ hid)))
                    · by_cases hj : i - m.length < Ls1.length
                      · rw [List.getElem?_append_left hj] at h
                        have := (k2 _ x h).append (L2 := Ls2)
                        rw [List.append_assoc, hm2l] at this
                        have e : m.length + (i - m.length) = i := by omega
                        rw [e] at this
                        rw [g1, bnth_app_left (by omega)]
                        exact this
                      · rw [List.getElem?_append_right (by omega)] at h
                        have := j2 _ x h
                        rw [List.append_assoc] at this
                        have e : i = m3.length + (i - m.length - Ls1.length) := by omega
                        rw [g1]
                        conv => enter [5]; rw [e]
                        rw [bnth_append_right]
                        exact this
                  · intro i j x y b hx hy ox oy
                    have mixed : ∀ (i j : Nat) (x y : LB), Lb[i]? = some x → (Ls1 ++ Ls2)[j]? = some y → x.owns b → y.owns b → False := by
                      intro i j x y hx hy ox oy
                      obtain ⟨h1, h2⟩ := hold i x b hx ox
                      rcases h2 with h2 | ⟨h2, _⟩
                      · exact ndx b (hrvF i x b h1 ox h2) b (List.mem_filterMap.2 ⟨y, List.mem_of_getElem? hy, owns_iff.1 oy⟩) rfl
                      · rcases hall b (hnew j y b hy oy) with h | h
                        · obtain ⟨id, z, hid, hz, oz⟩ := hFown b h
                          exact h2 (hs.inj i id x z b h1 hz ox oz ▸ hid)
                        · have := hs.lt h1 ox
                          omega
                    rcases hsplit i x hx with h | ⟨hi, h⟩
                    · rcases hsplit j y hy with k | ⟨hj, k⟩
                      · exact hs.inj i j x y b (hold i x b h ox).1 (hold j y b k oy).1 ox oy
                      · exact (mixed i _ x y h k ox oy).elim
                    · rcases hsplit j y hy with k | ⟨hj, k⟩
                      · exact (mixed j _ y x k h oy ox).elim
                      · have := fm_inj ndn h k (owns_iff.1 ox) (owns_iff.1 oy)
                        omega
                  · intro i x b hx ho
                    rcases hOwnF b ⟨i, x, hx, ho⟩ with ⟨j, y, hy, oy, _⟩ | h
                    · exact hs.own j y b hy oy
                    · rcases hall b h with h | h
                      · obtain ⟨id, y, _, hy, oy⟩ := hFown b h
                        exact hs.own id y b hy oy
                      · exact .inr (Nat.le_trans hs.fr.size h)
                  · intro i x b hx ho hX
                    rcases hOwnF b ⟨i, x, hx, ho⟩ with ⟨j, y, hy, oy, _⟩ | h
                    · exact hs.nx j y b hy oy hX
                    · rcases hall b h with h | h
                      · obtain ⟨id, y, _, hy, oy⟩ := hFown b h
                        exact hs.nx id y b hy oy hX
                      · have := hs.xl b hX
                        omega
                  · refine hs.fr.trans hfr (fun b hb hF => ?_)
                    obtain ⟨id, y, _, hy, oy⟩ := hFown b hF
                    rcases hs.own id y b hy oy with h | h
                    · exact h
                    · omega
                  · intro b hX
                    exact Nat.lt_of_lt_of_le (hs.xl b hX) hfr.size
                refine ⟨V, Lf, rfl, hSim, hExt, ?_⟩
                have := j1 0 (by simp)
                rw [List.append_assoc] at this
                simpa [nth] using this

end calls

end Go.Proofs.Ytbiefokigponpaa
