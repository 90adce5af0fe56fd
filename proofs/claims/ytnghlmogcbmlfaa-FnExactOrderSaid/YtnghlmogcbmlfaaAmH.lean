/- Places in slices and arrays, lengths, cuts, texts: the small machine tells what the model's operations tell. -/
import Derived.Test.YtnghlmogcbmlfaaAmG
namespace Go.Proofs.Ytnghlmogcbmlfaa
set_option linter.unusedVariables false
set_option linter.unusedSimpArgs false

section ops
variable {P : Program} {kt : KT} {w0 : World} {F0 X0 : Nat → Prop} {s : St} {L : List LB} {a : Act} {w : World} {o : Oper} {Z : Nat → Prop}

theorem kdT_some {t : TypeId} {k : Kd} (h : kdT P kt t = some k) : ∃ i z, P.info? t = some i ∧ i.size = wid k ∧ i.bytes ≤ 128 ∧ i.zero = some z ∧ z.cells.size = wid k ∧ kt.get t = some k := by
  unfold kdT at h
  cases hk : kt.get t with
  | none => simp [hk] at h
  | some k' =>
    cases hi : P.info? t with
    | none => simp [hk, hi] at h
    | some i =>
      cases hz : i.zero with
      | none => simp [hk, hi, hz] at h
      | some z =>
        simp only [hk, hi, hz] at h
        split at h
        · rename_i hc
          simp only [Option.some.injEq] at h
          subst h
          exact ⟨i, z, rfl, hc.1, hc.2.1, hz, hc.2.2, rfl⟩
        · simp at h

theorem kdT_size {t : TypeId} {k : Kd} (h : kdT P kt t = some k) : (sizeOf t).run P w = .ok (wid k) w := by
  obtain ⟨i, z, hi, hs, _⟩ := kdT_some h
  simp [sizeOf, typeInfo, hi, hs]

/-- The place of an element. The kind by which it is cut is that of the slice's type. -/
theorem tells_ia (hs : Sim w0 F0 X0 s L a w) {t e : TypeId} {x i : Operand} {k : Kd} {X I v : AV} (h : o.op = .indexAddr t x i) (ht : P.underlying t = some (.slice e)) (hk : kdT P kt e = some k)
    (hx : RepV w L (ZZ X0 L) X (a.eval x)) (hi : RepV w L (ZZ X0 L) I (a.eval i)) (hv : iaA k s.m X I = some v) : ∃ V, Tells P o a w V ∧ RepV w L (ZZ X0 L) v V := by
  cases I <;> simp only [iaA] at hv <;> try (simp at hv; done)
  rename_i ki n
  obtain ⟨ei, _⟩ := hi.int_inv
  have fin : ∀ (b ob len cap : Nat) , a.eval x = .slice (some ⟨b, ob, none⟩) len cap → 0 ≤ n → n < len → Tells P o a w (.pointer (some ⟨b, ob + n.toNat * wid k, none⟩)) := by
    intro b ob len cap hp h0 h1
    have hk' := kdT_size (w := w) hk
    simp [Tells, execOp, h, hp, ei, Instr.indexAt, asIntOf, run_underlying ht, h0, h1, hk', Addr.add_lit]
  cases X <;> simp only at hv <;> try (simp at hv; done)
  case sl k' l =>
    cases hc : castK k k' l with
    | none => simp [hc] at hv
    | some l2 =>
      obtain ⟨ek, el⟩ := castK_some hc
      subst ek
      obtain rfl : l = l2 := el.symm
      simp only [hc] at hv
      split at hv
      · rename_i h0
        cases hl : l[n.toNat]? with
        | none => simp [hl] at hv
        | some y =>
          simp only [hl, Option.some.injEq] at hv
          subst hv
          have hlt : n.toNat < l.length := (List.getElem?_eq_some_iff.1 hl).1
          obtain ⟨p, cap, b, off, C, ex, h1, h2, h3, h4, h5⟩ := hx.sl_inv
          obtain ⟨rfl, hz⟩ := h3 (by intro e; subst e; simp at hlt)
          refine ⟨_, fin b off _ _ ex h0 (by omega), ?_⟩
          have hb : n.toNat * wid k + 0 < l.length * wid k := row_bound hl (wid_pos k) (Nat.le_refl _)
          have := RepV.ip (w := w) (L := L) (Z := ZZ X0 L) (enc k y) 0 b (off + n.toNat * wid k) (fun j => C (n.toNat * wid k + j)) hz
            (fun j hj => by
              rw [enc_length] at hj
              rw [show off + n.toNat * wid k + j = off + (n.toNat * wid k + j) by omega]
              exact h4 _ (row_bound hl hj (Nat.le_refl _)))
            (fun j hj => h5 _ _ hl j (by rw [enc_length] at hj; exact hj)) (cell_lt (h4 _ hb))
          exact this
      · simp at hv
  case ms id v0 lo len =>
    cases hm : bnth s.m id with
    | dead => simp [hm] at hv
    | cells cs => simp [hm] at hv
    | row v' k' l =>
      simp only [hm] at hv
      cases he : eqN v0 v' with
      | false => simp [he] at hv
      | true =>
        obtain rfl := eqN_iff.1 he
        simp only [he] at hv
        cases hc : castK k k' l with
        | none => simp [hc] at hv
        | some l2 =>
          obtain ⟨ek, el⟩ := castK_some hc
          subst ek
          obtain rfl : l = l2 := el.symm
          simp only [hc] at hv
          split at hv
          · rename_i h01
            simp only [Option.some.injEq] at hv
            subst hv
            rcases hx.ms_inv with ⟨b, n', cap, ex, hcap, hL⟩ | ⟨n', p, rfl, rfl, _⟩ | ⟨b, off, n', ⟨rfl, _⟩, _⟩
            · rcases hL with ⟨hL, hsz⟩ | ⟨z, hL, hg⟩
              · obtain ⟨_, rfl, _⟩ := mem_row hs.mem hL hm
                refine ⟨_, fin b _ _ _ ex h01.1 h01.2, ?_⟩
                rw [← Nat.add_mul]
                exact .rp id v0 (lo + n.toNat) 0 b (wid k) (.inl hL)
              · exact absurd rfl (not_gone hs.mem hL hg hm)
            · omega
            · omega
          · simp at hv

theorem run_cut {t e : TypeId} {A : Option Addr} {len cap n : Nat} {lo hi : Option Value} {l u : Int} (ht : P.underlying t = some (.slice e)) (hn : (sizeOf e).run P w = .ok n w)
    (hlo : (lo = none ∧ l = 0) ∨ ∃ k, lo = some (.int k l)) (hhi : (hi = none ∧ u = len) ∨ ∃ k, hi = some (.int k u)) (h0 : 0 ≤ l) (h1 : l ≤ u) (h2 : u ≤ len) (hc : len ≤ cap) :
    (Instr.sliceAt t (.slice A len cap) lo hi none).run P w = .ok (.slice (if cap = l.toNat then A else A.map (·.add (l.toNat * n))) (u.toNat - l.toNat) (cap - l.toNat)) w := by
  have he : P.elem t = e := by simp [Program.elem, ht]
  have ht' : P.underlying t = some (.slice (P.elem t)) := by rw [he]; exact ht
  rw [run_sliceAt_slice w t _ lo hi none ht']
  rcases hlo with ⟨rfl, rfl⟩ | ⟨k, rfl⟩ <;> rcases hhi with ⟨rfl, rfl⟩ | ⟨k', rfl⟩
  · rw [run_slice_all w t A len cap ht', he, hn]; rfl
  · rw [run_slice_h w t A len cap ht' k' u (by omega) (by omega), he, hn]; rfl
  · rw [run_slice_l w t A len cap ht' k l h0 (by omega), he, hn]; rfl
  · rw [run_slice_lh w t A len cap ht' k k' l u h0 h1 (by omega), he, hn]; rfl

theorem bnd_inv {d n : Int} {Y : Option AV} {VY : Option Value} (h : bnd d Y = some n) (hr : ∀ y, Y = some y → ∃ V, VY = some V ∧ RepV w L Z y V) (hn : Y = none → VY = none) :
    (VY = none ∧ n = d) ∨ ∃ k, VY = some (.int k n) := by
  cases Y with
  | none => simp only [bnd, Option.some.injEq] at h; exact .inl ⟨hn rfl, h.symm⟩
  | some y =>
    cases y <;> simp only [bnd] at h <;> try (simp at h; done)
    simp only [Option.some.injEq] at h
    subst h
    obtain ⟨V, rfl, hV⟩ := hr _ rfl
    obtain ⟨rfl, _⟩ := hV.int_inv
    exact .inr ⟨_, rfl⟩

theorem tells_slc {t e : TypeId} {x : Operand} {lo hi : Option Operand} {k : Kd} {X v : AV} {Y1 Y2 : Option AV} (h : o.op = .slice t x lo hi none) (ht : P.underlying t = some (.slice e)) (hk : kdT P kt e = some k)
    (hx : RepV w L Z X (a.eval x)) (h1 : ∀ n d, bnd d Y1 = some n → (lo.map a.eval = none ∧ n = d) ∨ ∃ k, lo.map a.eval = some (.int k n))
    (h2 : ∀ n d, bnd d Y2 = some n → (hi.map a.eval = none ∧ n = d) ∨ ∃ k, hi.map a.eval = some (.int k n)) (hv : slcA k s.m X Y1 Y2 = some v) (hw : s.m.length = s.m.length) (hs : Sim w0 F0 X0 s L a w) (hZ : Z = ZZ X0 L) :
    ∃ V, Tells P o a w V ∧ RepV w L Z v V := by
  have fin : ∀ V, (Instr.sliceAt t (a.eval x) (lo.map a.eval) (hi.map a.eval) none).run P w = .ok V w → Tells P o a w V := by
    intro V hV
    simp [Tells, execOp, h, hV]
  cases X <;> simp only [slcA] at hv <;> try (simp at hv; done)
  case sl k' l =>
    cases hc : castK k k' l with
    | none => simp [hc] at hv
    | some l2 =>
      obtain ⟨ek, el⟩ := castK_some hc
      subst ek
      obtain rfl : l = l2 := el.symm
      simp only [hc] at hv
      cases hb1 : bnd 0 Y1 with
      | none => simp [hb1] at hv
      | some p =>
        cases hb2 : bnd (l.length : Int) Y2 with
        | none => simp [hb1, hb2] at hv
        | some q =>
          simp only [hb1, hb2] at hv
          split at hv
          · rename_i hc
            simp only [Option.some.injEq] at hv
            subst hv
            obtain ⟨A, cap, b, off, C, ex, g1, g2, g3, g4, g5⟩ := hx.sl_inv
            have hrun := run_cut (P := P) (w := w) (A := A) (cap := cap) ht (kdT_size hk) (h1 p 0 hb1) (h2 q l.length hb2) hc.1 hc.2.1 hc.2.2 g1
            refine ⟨_, fin _ (by rw [ex]; exact hrun), ?_⟩
            have hlen : ((l.drop p.toNat).take (q.toNat - p.toNat)).length = q.toNat - p.toNat := by simp; omega
            have key := RepV.sl (w := w) (L := L) (Z := Z) k ((l.drop p.toNat).take (q.toNat - p.toNat)) (if cap = p.toNat then A else A.map (·.add (p.toNat * wid k))) (cap - p.toNat) b (off + p.toNat * wid k) (fun j => C (p.toNat * wid k + j))
              (by rw [hlen]; omega) (by rw [hlen]; omega)
              (fun hne => by
                have hp : q.toNat - p.toNat ≠ 0 := by
                  intro e
                  apply hne
                  rw [← List.length_eq_zero_iff, hlen, e]
                have hl : l ≠ [] := by
                  intro e
                  subst e
                  simp at hc
                  omega
                obtain ⟨rfl, hz⟩ := g3 hl
                rw [if_neg (by omega)]
                exact ⟨by simp [Addr.add_lit], hz⟩)
              (fun j hj => by
                rw [hlen] at hj
                rw [show off + p.toNat * wid k + j = off + (p.toNat * wid k + j) by omega]
                refine g4 _ ?_
                have : (p.toNat + (q.toNat - p.toNat)) * wid k ≤ l.length * wid k := Nat.mul_le_mul_right _ (by omega)
                rw [Nat.add_mul] at this
                omega)
              (fun i y hy j hj => by
                rw [List.getElem?_take] at hy
                split at hy
                · rw [List.getElem?_drop] at hy
                  have := g5 _ y hy j hj
                  rw [Nat.add_mul] at this
                  rw [show p.toNat * wid k + (i * wid k + j) = p.toNat * wid k + i * wid k + j by omega]
                  exact this
                · simp at hy)
            rw [hlen] at key
            exact key
          · simp at hv
  case ms id v0 lo0 len =>
    cases hm : bnth s.m id with
    | dead => simp [hm] at hv
    | cells cs => simp [hm] at hv
    | row v' k' l =>
      simp only [hm] at hv
      cases he : eqN v0 v' with
      | false => simp [he] at hv
      | true =>
        obtain rfl := eqN_iff.1 he
        simp only [he] at hv
        cases hc : castK k k' l with
        | none => simp [hc] at hv
        | some l2 =>
          obtain ⟨ek, el⟩ := castK_some hc
          subst ek
          obtain rfl : l = l2 := el.symm
          simp only [hc] at hv
          cases hb1 : bnd 0 Y1 with
          | none => simp [hb1] at hv
          | some p =>
            cases hb2 : bnd (len : Int) Y2 with
            | none => simp [hb1, hb2] at hv
            | some q =>
              simp only [hb1, hb2] at hv
              split at hv
              · rename_i hc
                simp only [Option.some.injEq] at hv
                subst hv
                subst hZ
                rcases hx.ms_inv with ⟨b, n', cap, ex, hcap, hL⟩ | ⟨n', A, rfl, rfl, ex, hL⟩ | ⟨b, off, n', ⟨rfl, hlo⟩, ex, hL⟩
                · have hrun := run_cut (P := P) (w := w) (A := some ⟨b, lo0 * n', none⟩) (cap := cap) ht (kdT_size hk) (h1 p 0 hb1) (h2 q len hb2) hc.1 hc.2.1 hc.2.2 hcap.1
                  refine ⟨_, fin _ (by rw [ex]; exact hrun), ?_⟩
                  rcases hL with ⟨hL, hsz⟩ | ⟨z, hL, hg⟩
                  · obtain ⟨_, rfl, _⟩ := mem_row hs.mem hL hm
                    by_cases hcp : cap = p.toNat
                    · rw [if_pos hcp]
                      have e1 : q.toNat - p.toNat = 0 := by omega
                      have e2 : cap - p.toNat = 0 := by omega
                      rw [e1, e2]
                      exact .msE id v0 _ b _ (wid k) (.inl hL) (by omega)
                    · rw [if_neg hcp]
                      simp only [Option.map_some, Addr.add_lit]
                      rw [← Nat.add_mul]
                      refine .ms id v0 _ _ _ b (wid k) (.inl ⟨hL, ?_⟩) (by omega) (by omega)
                      rw [show lo0 + p.toNat + (cap - p.toNat) = lo0 + cap by omega]
                      exact hsz
                  · exact absurd rfl (not_gone hs.mem hL hg hm)
                · have hp : p = 0 := by omega
                  have hq : q = 0 := by omega
                  subst hp hq
                  have hrun := run_cut (P := P) (w := w) (A := A) (len := 0) (cap := 0) ht (kdT_size hk) (h1 0 0 hb1) (h2 0 ((0 : Nat) : Int) hb2) (by omega) (by omega) (by omega) (by omega)
                  refine ⟨_, fin _ (by rw [ex]; exact hrun), ?_⟩
                  exact .ms0 id v0 n' A hL
                · have hp : p = 0 := by omega
                  have hq : q = 0 := by omega
                  subst hp hq
                  have hrun := run_cut (P := P) (w := w) (A := some ⟨b, off, none⟩) (len := 0) (cap := 0) ht (kdT_size hk) (h1 0 0 hb1) (h2 0 ((0 : Nat) : Int) hb2) (by omega) (by omega) (by omega) (by omega)
                  refine ⟨_, fin _ (by rw [ex]; exact hrun), ?_⟩
                  exact .msE id v0 lo0 b off n' hL hlo
              · simp at hv

end ops

end Go.Proofs.Ytnghlmogcbmlfaa
