/- Comparing structs, greatest and least, texts out of bytes, structs put together: the small machine tells what the model's operations tell. -/
import Derived.Test.YtnghlmogcbmlfaaAmI
namespace Go.Proofs.Ytnghlmogcbmlfaa
set_option linter.unusedVariables false
set_option linter.unusedSimpArgs false

section ops
variable {P : Program} {kt : KT} {w0 : World} {F0 X0 : Nat → Prop} {s : St} {L : List LB} {a : Act} {w : World} {o : Oper} {Z : Nat → Prop}

theorem prim_agg {t : TypeId} {p : Pr} (h : primT P t = some p) : aggT P t = some false := by
  unfold primT at h
  unfold aggT
  cases hu : P.underlying t with
  | none => simp [hu] at h
  | some d => cases d <;> simp_all

theorem eqC_run (d : Nat) {t : TypeId} {p : Pr} {x y : AV} {X Y : Value} {r : Bool} (ht : primT P t = some p) (hx : RepV w L Z x X) (hy : RepV w L Z y Y) (h : eqC p x y = some r) :
    (Op.equalIn (d + 1) t X Y).run P w = .ok r w := by
  unfold primT at ht
  cases hu : P.underlying t with
  | none => simp [hu] at ht
  | some de =>
    rw [hu] at ht
    cases p with
    | i =>
      cases x <;> simp only [eqC] at h <;> try (simp at h; done)
      cases y <;> simp only at h <;> try (simp at h; done)
      rename_i k m k' n
      cases hk : kq k k' with
      | false => simp [hk] at h
      | true =>
        obtain rfl := kq_iff.1 hk
        simp only [hk, Option.some.injEq] at h
        subst h
        obtain ⟨rfl, _⟩ := hx.int_inv
        obtain ⟨rfl, _⟩ := hy.int_inv
        cases de <;> simp at ht
        exact run_equalIn_int w d t k _ m n hu
    | b =>
      cases x <;> simp only [eqC] at h <;> try (simp at h; done)
      cases y <;> simp only at h <;> try (simp at h; done)
      simp only [Option.some.injEq] at h
      subst h
      obtain rfl := hx.bool_inv
      obtain rfl := hy.bool_inv
      cases de <;> simp at ht
      exact run_equalIn_bool' w d t _ _ hu
    | s =>
      cases x <;> simp only [eqC] at h <;> try (simp at h; done)
      cases y <;> simp only at h <;> try (simp at h; done)
      simp only [Option.some.injEq] at h
      subst h
      obtain ⟨rfl, _⟩ := hx.str_inv
      obtain ⟨rfl, _⟩ := hy.str_inv
      cases de <;> simp at ht
      exact run_equalIn_string w d t _ _ hu

theorem eqFields_run (d : Nat) {Xs Ys : Array Value} : ∀ (fs : List Field) (i : Nat) (ps : List Pr) (xs ys : List AV) (r : Bool), prims P i fs = some ps → eqL ps xs ys = some r →
    (∀ j, j < xs.length → (i + j < Xs.size ∧ RepV w L Z (nth xs j) (Xs.getD (i + j) Go.undef))) → (∀ j, j < ys.length → (i + j < Ys.size ∧ RepV w L Z (nth ys j) (Ys.getD (i + j) Go.undef))) →
    (Op.eqFields (d + 1) Xs Ys fs).run P w = .ok r w := by
  intro fs
  induction fs with
  | nil =>
    intro i ps xs ys r hp he hx hy
    simp only [prims, Option.some.injEq] at hp
    subst hp
    cases xs <;> cases ys <;> simp [eqL] at he
    subst he
    rfl
  | cons f fs ih =>
    intro i ps xs ys r hp he hx hy
    simp only [prims] at hp
    cases h1 : primT P f.type with
    | none => simp [h1] at hp
    | some p =>
      cases h2 : prims P (i + 1) fs with
      | none => simp [h1, h2] at hp
      | some q =>
        simp only [h1, h2] at hp
        split at hp
        · rename_i hc
          simp only [Option.some.injEq] at hp
          subst hp
          cases xs with
          | nil => simp [eqL] at he
          | cons x xs =>
            cases ys with
            | nil => simp [eqL] at he
            | cons y ys =>
              simp only [eqL] at he
              cases hb : eqC p x y with
              | none => simp [hb] at he
              | some b =>
                cases hl : eqL q xs ys with
                | none => simp [hb, hl] at he
                | some c =>
                  simp only [hb, hl, Option.some.injEq] at he
                  subst he
                  obtain ⟨x1, x2⟩ := hx 0 (by simp)
                  obtain ⟨y1, y2⟩ := hy 0 (by simp)
                  have hq := eqC_run (P := P) d h1 x2 y2 hb
                  have hpx : (part f.type Xs f.offset).run P w = .ok (Xs.getD (i + 0) Go.undef) w := by
                    have hlt : f.offset < Xs.size := by omega
                    simp [part, run_aggT (prim_agg h1), Array.getElem?_eq_getElem hlt, Array.getD_eq_getD_getElem?, ← hc.2]
                  have hpy : (part f.type Ys f.offset).run P w = .ok (Ys.getD (i + 0) Go.undef) w := by
                    have hlt : f.offset < Ys.size := by omega
                    simp [part, run_aggT (prim_agg h1), Array.getElem?_eq_getElem hlt, Array.getD_eq_getD_getElem?, ← hc.2]
                  have hrest := ih (i + 1) q xs ys c h2 hl (fun j hj => by
                      have := hx (j + 1) (by simpa using hj)
                      rw [show i + (j + 1) = i + 1 + j by omega] at this
                      exact this) (fun j hj => by
                      have := hy (j + 1) (by simpa using hj)
                      rw [show i + (j + 1) = i + 1 + j by omega] at this
                      exact this)
                  simp only [Op.eqFields]
                  rw [if_pos hc.1]
                  simp only [Sem.run_bind, hpx, hpy, hq, Result.andThen_ok, Sem.run_ite]
                  cases b with
                  | false => simp
                  | true => simpa using hrest
        · simp at hp

theorem tells_eqa {op : BinOp} {t u : TypeId} {x y : Operand} {ps : List Pr} {xs ys : List AV} {r : Bool} (h : o.op = .binOp op t x y u) (ht : flatT P t = some ps) (hx : RepV w L Z (.agg xs) (a.eval x)) (hy : RepV w L Z (.agg ys) (a.eval y))
    (he : eqL ps xs ys = some r) (ho : op = .eql ∨ op = .neq) : Tells P o a w (.bool (match op with | .neq => !r | _ => r)) := by
  unfold flatT at ht
  cases hu : P.underlying t with
  | none => simp [hu] at ht
  | some d =>
    cases d <;> simp only [hu] at ht <;> try (simp at ht; done)
    rename_i fs
    split at ht
    · rename_i hc
      obtain ⟨Xs, ex, hsx, hrx⟩ := hx.agg_inv
      obtain ⟨Ys, ey, hsy, hry⟩ := hy.agg_inv
      have hf : P.fieldsOf t = fs := by simp [Program.fieldsOf, hu]
      have hq : (Op.equal t (.agg Xs) (.agg Ys)).run P w = .ok r w := by
        have h1 := run_equalIn_struct (P := P) w 9999 t Xs Ys (by rw [hf]; exact hu) hc.1
        rw [hf] at h1
        have h2 := eqFields_run (P := P) (w := w) (L := L) (Z := Z) 9998 (Xs := Xs) (Ys := Ys) fs.toList 0 ps xs ys r ht he
          (fun j hj => ⟨by omega, by simpa using hrx j hj⟩) (fun j hj => ⟨by omega, by simpa using hry j hj⟩)
        exact h1.trans h2
      have hg : (eqGuard op t x y (.agg Xs) (.agg Ys)).run P w = .ok () w := by
        rcases ho with rfl | rfl <;> simp [eqGuard, hc.2]
      rcases ho with rfl | rfl <;> simp [Tells, execOp, h, ex, ey, hg, Go.binOp, hq]
    · simp at ht

theorem maxA_run : ∀ (xs : List AV) (x : AV) (X : Value) (Xs : List Value) (v : AV), RepV w L Z x X → xs.length = Xs.length → (∀ j, j < xs.length → RepV w L Z (nth xs j) (Xs[j]?.getD Go.undef)) → maxA x xs = some v →
    ∃ V, (Xs.foldlM Builtin.max2 X).run P w = .ok V w ∧ RepV w L Z v V := by
  intro xs
  induction xs with
  | nil =>
    intro x X Xs v hx hl hr h
    cases Xs with
    | cons => simp at hl
    | nil =>
      cases x <;> simp [maxA] at h <;> subst h <;> exact ⟨X, rfl, hx⟩
  | cons y ys ih =>
    intro x X Xs v hx hl hr h
    cases Xs with
    | nil => simp at hl
    | cons Y Ys =>
      have hy : RepV w L Z y Y := by simpa [nth] using hr 0 (by simp)
      cases x <;> cases y <;> simp only [maxA] at h <;> try (simp at h; done)
      rename_i k m k' n
      cases hk : kq k k' with
      | false => simp [hk] at h
      | true =>
        obtain rfl := kq_iff.1 hk
        simp only [hk] at h
        obtain ⟨rfl, im⟩ := hx.int_inv
        obtain ⟨rfl, jn⟩ := hy.int_inv
        have hm : RepV w L Z (.int k (if n > m then n else m)) (.int k (if n > m then n else m)) := .int _ _ (by split <;> assumption)
        obtain ⟨V, h1, h2⟩ := ih _ _ Ys v hm (by simpa using hl) (fun j hj => by simpa [nth] using hr (j + 1) (by simpa using hj)) h
        exact ⟨V, by simpa [List.foldlM, Builtin.max2] using h1, h2⟩

theorem minA_run : ∀ (xs : List AV) (x : AV) (X : Value) (Xs : List Value) (v : AV), RepV w L Z x X → xs.length = Xs.length → (∀ j, j < xs.length → RepV w L Z (nth xs j) (Xs[j]?.getD Go.undef)) → minA x xs = some v →
    ∃ V, (Xs.foldlM Builtin.min2 X).run P w = .ok V w ∧ RepV w L Z v V := by
  intro xs
  induction xs with
  | nil =>
    intro x X Xs v hx hl hr h
    cases Xs with
    | cons => simp at hl
    | nil =>
      cases x <;> simp [minA] at h <;> subst h <;> exact ⟨X, rfl, hx⟩
  | cons y ys ih =>
    intro x X Xs v hx hl hr h
    cases Xs with
    | nil => simp at hl
    | cons Y Ys =>
      have hy : RepV w L Z y Y := by simpa [nth] using hr 0 (by simp)
      cases x <;> cases y <;> simp only [minA] at h <;> try (simp at h; done)
      rename_i k m k' n
      cases hk : kq k k' with
      | false => simp [hk] at h
      | true =>
        obtain rfl := kq_iff.1 hk
        simp only [hk] at h
        obtain ⟨rfl, im⟩ := hx.int_inv
        obtain ⟨rfl, jn⟩ := hy.int_inv
        have hm : RepV w L Z (.int k (if n < m then n else m)) (.int k (if n < m then n else m)) := .int _ _ (by split <;> assumption)
        obtain ⟨V, h1, h2⟩ := ih _ _ Ys v hm (by simpa using hl) (fun j hj => by simpa [nth] using hr (j + 1) (by simpa using hj)) h
        exact ⟨V, by simpa [List.foldlM, Builtin.min2] using h1, h2⟩

end ops

end Go.Proofs.Ytnghlmogcbmlfaa
