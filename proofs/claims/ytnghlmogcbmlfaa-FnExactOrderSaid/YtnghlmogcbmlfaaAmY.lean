/- A function whose text is read, and whose text does what the contract says, keeps the contract. -/
import Derived.Test.YtnghlmogcbmlfaaAmX
namespace Go.Proofs.Ytnghlmogcbmlfaa
set_option linter.unusedVariables false
set_option linter.unusedSimpArgs false
set_option linter.unnecessarySimpa false

/-- What is known of values that are handed over: numbers are in their ranges, and nothing is too long. -/
def ok : Nat → List AV → Prop
  | 0, _ => True
  | _ + 1, [] => True
  | d + 1, v :: r => (match v with
      | .int k n => InK k n
      | .str s => s.size ≤ maxLen
      | .sl k l => l.length ≤ maxLen ∧ ∀ x ∈ l, ok d (enc k x)
      | .own k l => l.length ≤ maxLen ∧ ∀ x ∈ l, ok d (enc k x)
      | .mrow k l => l.length ≤ maxLen ∧ ∀ x ∈ l, ok d (enc k x)
      | .agg cs => ok d cs
      | .tup cs => ok d cs
      | .fn _ cs => ok d cs
      | .ip cs _ => ok d cs
      | .box cs => ok d cs
      | _ => True) ∧ ok d r

section ok
variable {w : World} {L : List LB} {Z : Nat → Prop}

theorem ok_of_rep : ∀ (d : Nat) (vs : List AV) (V : Nat → Value), (∀ j, j < vs.length → RepV w L Z (nth vs j) (V j)) → ok d vs := by
  intro d
  induction d with
  | zero => intro vs V h; trivial
  | succ d ih =>
    intro vs V h
    cases vs with
    | nil => trivial
    | cons v r =>
      have hv : RepV w L Z v (V 0) := h 0 (by simp)
      refine ⟨?_, ih r (fun j => V (j + 1)) (fun j hj => h (j + 1) (by simpa using hj))⟩
      cases v <;> simp only
      case int k n => exact hv.int_inv.2
      case str s => exact hv.str_inv.2
      case sl k l =>
        obtain ⟨p, cap, b, off, C, e, h1, h2, h3, h4, h5⟩ := hv.sl_inv
        refine ⟨h2, fun x hx => ?_⟩
        obtain ⟨i, hi, rfl⟩ := List.mem_iff_getElem.1 hx
        exact ih _ (fun j => C (i * wid k + j)) (fun j hj => h5 i _ (List.getElem?_eq_getElem hi) j (by rw [enc_length] at hj; exact hj))
      case own k l => cases hv
      case mrow k l => cases hv
      case box cs => cases hv
      case agg cs =>
        obtain ⟨Cs, e, h1, h2⟩ := hv.agg_inv
        exact ih cs (fun j => Cs.getD j Go.undef) h2
      case tup cs =>
        obtain ⟨Cs, e, h1, h2⟩ := hv.tup_inv
        exact ih cs (fun j => Cs.getD j Go.undef) h2
      case fn f cs =>
        obtain ⟨Cs, e, h1, h2⟩ := hv.fn_inv
        exact ih cs (fun j => Cs.getD j Go.undef) h2
      case ip cs off =>
        obtain ⟨b, o, C, e, h1, h2, h3, h4⟩ := hv.ip_inv
        exact ih cs C h4

theorem ok_of_repL : ∀ (d : Nat) {vs : List AV} {Vs : List Value} {F : List Nat}, RepL w Z vs Vs F → ok d vs := by
  intro d
  induction d with
  | zero => intro vs Vs F h; trivial
  | succ d ih =>
    intro vs Vs F h
    cases h with
    | nil => trivial
    | @plain v V r R _ h t =>
      have := ok_of_rep (w := w) (L := []) (Z := Z) (d + 1) [v] (fun _ => V) (fun j hj => by
        obtain rfl : j = 0 := by simpa using hj
        exact h)
      exact ⟨this.1, ih t⟩
    | @own k l V b r R F h t =>
      obtain ⟨cap, C, ty, z, h1, h0, h2, h3, h4, h5, h6, h7⟩ := h
      refine ⟨⟨by omega, fun x hx => ?_⟩, ih t⟩
      obtain ⟨i, hi, rfl⟩ := List.mem_iff_getElem.1 hx
      exact ok_of_rep d _ (fun j => C.getD (i * wid k + j) Go.undef) (fun j hj => h7 i _ (List.getElem?_eq_getElem hi) j (by rw [enc_length] at hj; exact hj))
    | own0 t => exact ⟨⟨Nat.zero_le _, fun x hx => by simp at hx⟩, ih t⟩
    | @mrow k l V b r R F h t =>
      obtain ⟨cap, C, ty, z, h1, h0, h2, h3, h4, h5, h6, h7⟩ := h
      refine ⟨⟨by omega, fun x hx => ?_⟩, ih t⟩
      obtain ⟨i, hi, rfl⟩ := List.mem_iff_getElem.1 hx
      exact ok_of_rep d _ (fun j => C.getD (i * wid k + j) Go.undef) (fun j hj => h7 i _ (List.getElem?_eq_getElem hi) j (by rw [enc_length] at hj; exact hj))
    | mrow0 t => exact ⟨⟨Nat.zero_le _, fun x hx => by simp at hx⟩, ih t⟩
    | box h hc ht => exact ⟨ih hc, ih ht⟩
    | agg hc ht => exact ⟨ih hc, ih ht⟩
    | tup hc ht => exact ⟨ih hc, ih ht⟩

end ok

section fn
variable {P : Program} {kt : KT} {hws : Hows} {C : Tab} {w0 : World} {F0 X0 : Nat → Prop} {s : St} {L : List LB} {a : Act} {w : World}

/-- A result is told. -/
theorem rv_sound (hs : Sim w0 F0 X0 s L a w) {x : ResultVar} {y : RV} {v : AV} (h : resRV P x = some y) (hv : rvA s y = some v) :
    ∃ V, (match x with | .tmp t => (pure (a.tmps.getD t Go.undef) : Sem Value) | .cell b t => do loadVar t (← asAddr (a.tmps.getD b Go.undef))).run P w = .ok V w ∧ RepV w L (ZZ X0 L) v V := by
  cases x with
  | tmp t =>
    simp only [resRV, Option.some.injEq] at h
    subst h
    simp only [rvA, Option.some.injEq] at hv
    subst hv
    exact ⟨_, rfl, resO_sound hs (x := .tmp t) (y := .t t) rfl⟩
  | cell b t =>
    simp only [resRV] at h
    cases hg : aggT P t with
    | none => simp [hg] at h
    | some g =>
      cases hn : sizeT P t with
      | none => simp [hg, hn] at h
      | some n =>
        simp only [hg, hn, Option.some.injEq] at h
        subst h
        simp only [rvA] at hv
        have hr := resO_sound hs (x := .tmp b) (y := .t b) rfl
        let o : Oper := { (default : Oper) with op := .load t (.tmp b) }
        obtain ⟨V, h1, h2⟩ := tells_load (o := o) (P := P) hs rfl hg hn hr hv
        have hp : ∃ A, a.eval (.tmp b) = .pointer (some A) := by
          have hr2 : RepV w L (ZZ X0 L) (nth s.t b) (a.eval (.tmp b)) := hr
          cases hx : nth s.t b <;> rw [hx] at hv hr2 <;> simp only [ldA] at hv <;> try (simp at hv; done)
          · obtain ⟨b', o', _, e, _⟩ := hr2.ip_inv
            exact ⟨_, e⟩
          · obtain ⟨b', e, _⟩ := hr2.ptr_inv
            exact ⟨_, e⟩
          · obtain ⟨b', n', e, _⟩ := hr2.rp_inv
            exact ⟨_, e⟩
        obtain ⟨A, hA⟩ := hp
        refine ⟨V, ?_, h2⟩
        have hA' : a.tmps.getD b Go.undef = .pointer (some A) := hA
        have h3 : (execOp a.eval o).run P w = .ok (.value V) w := h1
        have h4 : (execOp a.eval o) = (do pure (.value (← Instr.loadAt t (a.eval (.tmp b))))) := rfl
        rw [h4, hA] at h3
        simp only [Instr.loadAt, Instr.sureAddr, Sem.run_bind, Sem.run_pure, Result.andThen_ok] at h3
        simp only [hA', asAddr, Sem.run_bind, Sem.run_pure, Result.andThen_ok]
        cases hlv : (loadVar t A).run P w with
        | ok V' w' =>
          rw [hlv] at h3
          simp only [Result.andThen_ok, Result.ok.injEq, Next.value.injEq] at h3
          rw [h3.1, h3.2]
        | halt x w' => rw [hlv] at h3; simp at h3

theorem results_sound (hs : Sim w0 F0 X0 s L a w) {fn : Func} {rs : List RV} {r : AV} (h : mapO (resRV P) fn.results.toList = some rs) (hr : resA s rs = some r) : ∃ V, (results fn a.tmps).run P w = .ok V w ∧ RepV w L (ZZ X0 L) r V := by
  have key : ∀ (xs : List ResultVar) (ys : List RV) (vs : List AV), mapO (resRV P) xs = some ys → mapO (rvA s) ys = some vs →
      ∃ Vs : List Value, (xs.mapM (m := Sem) fun | .tmp t => pure (a.tmps.getD t Go.undef) | .cell b t => do loadVar t (← asAddr (a.tmps.getD b Go.undef))).run P w = .ok Vs w ∧ Vs.length = vs.length ∧ ∀ j, j < vs.length → RepV w L (ZZ X0 L) (nth vs j) (Vs[j]?.getD Go.undef) := by
    intro xs
    induction xs with
    | nil =>
      intro ys vs h1 h2
      simp only [mapO, Option.some.injEq] at h1
      subst h1
      simp only [mapO, Option.some.injEq] at h2
      subst h2
      exact ⟨[], by simp, rfl, fun j hj => by simp at hj⟩
    | cons x xs ih =>
      intro ys vs h1 h2
      simp only [mapO] at h1
      cases hx : resRV P x with
      | none => simp [hx] at h1
      | some y =>
        cases hxs : mapO (resRV P) xs with
        | none => simp [hx, hxs] at h1
        | some ys' =>
          simp only [hx, hxs, Option.some.injEq] at h1
          subst h1
          simp only [mapO] at h2
          cases hy : rvA s y with
          | none => simp [hy] at h2
          | some v =>
            cases hys : mapO (rvA s) ys' with
            | none => simp [hy, hys] at h2
            | some vs' =>
              simp only [hy, hys, Option.some.injEq] at h2
              subst h2
              obtain ⟨V, g1, g2⟩ := rv_sound (P := P) hs hx hy
              obtain ⟨Vs, k1, k2, k3⟩ := ih ys' vs' hxs hys
              refine ⟨V :: Vs, ?_, by simp [k2], fun j hj => ?_⟩
              · rw [List.mapM_cons]
                simp only [Sem.run_bind, g1, k1, Result.andThen_ok, Sem.run_pure]
              · cases j with
                | zero => simpa [nth] using g2
                | succ j => simpa [nth] using k3 j (by simpa using hj)
  unfold resA at hr
  cases hm : mapO (rvA s) rs with
  | none => simp [hm] at hr
  | some vs =>
    obtain ⟨Vs, k1, k2, k3⟩ := key _ _ _ h hm
    have hrun : (results fn a.tmps).run P w = .ok (if h : Vs.toArray.size = 1 then Vs.toArray[0] else .tuple Vs.toArray) w := by
      unfold results
      rw [Array.mapM_eq_mapM_toList]
      simp only [Sem.run_bind, Sem.run_map]
      erw [k1]
      simp only [Result.andThen_ok, Sem.run_pure]
    cases vs with
    | nil =>
      obtain rfl := List.length_eq_zero_iff.1 k2
      simp only [hm, Option.some.injEq] at hr
      subst hr
      exact ⟨_, hrun, .tup [] #[] rfl (fun j hj => by simp at hj)⟩
    | cons v vs =>
      cases vs with
      | nil =>
        simp only [hm, Option.some.injEq] at hr
        subst hr
        obtain ⟨V, rfl⟩ : ∃ V, Vs = [V] := by
          cases Vs with
          | nil => simp at k2
          | cons V Vs => cases Vs with
            | nil => exact ⟨V, rfl⟩
            | cons V' Vs => simp at k2
        exact ⟨_, hrun, by simpa [nth] using k3 0 (by simp)⟩
      | cons v' vs =>
        simp only [hm, Option.some.injEq] at hr
        subst hr
        have hne : ¬ (Vs.toArray.size = 1) := by simp [k2]
        rw [dif_neg hne] at hrun
        exact ⟨_, hrun, .tup _ _ (by simp [k2]) (fun j hj => by simpa [Array.getD_eq_getD_getElem?] using k3 j hj)⟩

theorem outs_rel {Z : Nat → Prop} : ∀ (ms : List Mode) (vs : List AV) (Vs : List Value), Vs.length = vs.length → (∀ j, j < vs.length → RepV w L Z (nth vs j) (Vs[j]?.getD Go.undef)) →
    (outsV ms Vs).length = (outsOf ms vs).length ∧ ∀ j, j < (outsOf ms vs).length → RepV w L Z (nth (outsOf ms vs) j) ((outsV ms Vs)[j]?.getD Go.undef) := by
  intro ms
  induction ms with
  | nil => intro vs Vs h1 h2; simp [outsOf, outsV]
  | cons md ms ih =>
    intro vs Vs h1 h2
    cases vs with
    | nil =>
      obtain rfl := List.length_eq_zero_iff.1 h1
      simp [outsOf, outsV]
    | cons v vs =>
      cases Vs with
      | nil => simp at h1
      | cons V Vs =>
        obtain ⟨g1, g2⟩ := ih vs Vs (by simpa using h1) (fun j hj => by simpa [nth] using h2 (j + 1) (by simpa using hj))
        simp only [outsOf, outsV]
        cases hw : wrote md with
        | false => exact ⟨g1, g2⟩
        | true =>
          simp only
          refine ⟨by simp [g1], fun j hj => ?_⟩
          cases j with
          | zero => simpa [nth] using h2 0 (by simp)
          | succ j => simpa [nth] using g2 j (by simpa using hj)

theorem fin_sound (hs : SimM w0 F0 X0 s.m L w) {c : Con} {vs : List AV} {Vs : List Value} {r : AV} {V : Value} {out : AV} {outs : List AV} (hV : RepV w L (ZZ X0 L) r V) (hl : Vs.length = vs.length) (hvs : ∀ j, j < vs.length → RepV w L (ZZ X0 L) (nth vs j) (Vs[j]?.getD Go.undef))
    (hf : finA c vs r s.m = some (out, outs)) : ∃ F', RepL w (fun b => c.leaks = false ∨ X0 b ∨ b ∈ F') (out :: outs) (V :: outsV c.ms Vs) F' ∧ F'.Nodup ∧ ∀ b ∈ F', F0 b ∨ w0.heap.size ≤ b := by
  unfold finA hand at hf
  cases htk : taken s.m 64 (c.rm :: wrotes c.ms) (r :: outsOf c.ms vs) with
  | none => simp [htk] at hf
  | some ids =>
    simp only [htk] at hf
    cases htw : noTwice ids with
    | false => simp [htw] at hf
    | true =>
      simp only [htw] at hf
      cases hcv : conv true s.m (killAll s.m ids) 64 (c.rm :: wrotes c.ms) (r :: outsOf c.ms vs) with
      | none => simp [hcv] at hf
      | some as =>
        simp only [hcv] at hf
        have has : as = out :: outs := by
          cases as with
          | nil => simp at hf
          | cons x as => simp only [Option.some.injEq, Prod.mk.injEq] at hf; rw [hf.1, hf.2]
        subst has
        obtain ⟨o1, o2⟩ := outs_rel c.ms vs Vs hl hvs
        have hrep : ∀ j, j < (r :: outsOf c.ms vs).length → RepV w L (ZZ X0 L) (nth (r :: outsOf c.ms vs) j) ((V :: outsV c.ms Vs)[j]?.getD Go.undef) := by
          intro j hj
          cases j with
          | zero => simpa [nth] using hV
          | succ j => simpa [nth] using o2 j (by simpa using hj)
        have tail : ∀ {F : List Nat}, F.Sublist (ids.filterMap (bOf L)) → F.Nodup ∧ ∀ b ∈ F, F0 b ∨ w0.heap.size ≤ b := by
          intro F hsub
          refine ⟨hsub.nodup (fm_nodup hs (noTwice_nodup htw)), fun b hb => ?_⟩
          obtain ⟨id, hid, hbo⟩ := List.mem_filterMap.1 (hsub.subset hb)
          obtain ⟨x, hx, ox⟩ := bOf_some hbo
          exact hs.own id x b hx ox
        cases hlk : c.leaks with
        | false =>
          obtain ⟨F, h1, h2⟩ := conv_sound (ids := ids) (N := fun _ => True) (Zc := fun _ => True) hs true 64 _ _ _ ids (V :: outsV c.ms Vs) hcv htk (.inl fun _ => trivial) (by simp [o1]) hrep (.inr ⟨rfl, 64, hlk⟩)
          exact ⟨F, h1.mono (fun _ _ => trivial), tail h2⟩
        | true =>
          obtain ⟨F, h1, h2⟩ := conv_sound (ids := ids) (N := fun _ => True) (Zc := fun b => X0 b ∨ ∃ id x, id ∈ ids ∧ L[id]? = some x ∧ x.owns b) hs true 64 _ _ _ ids (V :: outsV c.ms Vs) hcv htk (.inl fun _ => trivial) (by simp [o1]) hrep
            (.inl ⟨by
              rintro b (h | ⟨id, x, _, h1, h2⟩)
              · exact .inl h
              · exact .inr ⟨id, x, h1, h2⟩, by
              rintro id x b h1 _ hx ho (h | ⟨id2, y, h2, hy, hoy⟩)
              · exact hs.nx id x b hx ho h
              · exact h1 (hs.inj id id2 x y b hx hy ho hoy ▸ h2)⟩)
          refine ⟨F, h1.mono (fun b hb => ?_), tail h2⟩
          rcases hb with hb | hb | hb
          · simp at hb
          · exact .inl hb
          · obtain ⟨id, hid, hbo⟩ := List.mem_filterMap.1 (h2.subset hb)
            obtain ⟨x, hx, ox⟩ := bOf_some hbo
            exact .inr ⟨id, x, hid, hx, ox⟩

theorem nth_replicate {n i : Nat} : nth (List.replicate n AV.undef) i = .undef := by
  induction n generalizing i with
  | zero => rfl
  | succ n ih => cases i with
    | zero => rfl
    | succ i => exact ih (i := i)

theorem func_sound (hC : TabSound P C) {f : FuncId} {fn : Func} {af : AF} {c : Con} (hf : P.funcs[f]? = some fn) (hn : fn.name ≠ "runtime.NumGoroutine") (hres : resF P kt hws fn = some af) (hdo : ∀ as, ok 64 as → Does C af c as) : Sound P f c := by
  unfold resF at hres
  cases hb : fn.body with
  | none => simp [hb] at hres
  | some code =>
    simp only [hb] at hres
    cases hc : resC P kt hws code with
    | none => simp [hc] at hres
    | some ac =>
      cases hrs : mapO (resRV P) fn.results.toList with
      | none => simp [hc, hrs] at hres
      | some rs =>
        simp only [hc, hrs, Option.some.injEq] at hres
        subst hres
        refine ⟨⟨fn, hf, hn, by simp [hb]⟩, ?_⟩
        intro as out outs hrun w Vs F X hrep hnd hFX hXl
        have hd := hdo as (ok_of_repL 64 hrep)
        unfold Does at hd
        simp only [hrun] at hd
        cases hen : entryA fn.ntmps as with
        | none => simp only [hen] at hd
        | some q =>
          obtain ⟨vs, s⟩ := q
          simp only [hen] at hd
          unfold entryA at hen
          cases hld : land 64 as [] with
          | none => simp [hld] at hen
          | some q =>
            obtain ⟨vs', m⟩ := q
            simp only [hld, Option.some.injEq, Prod.mk.injEq] at hen
            obtain ⟨rfl, rfl⟩ := hen
            obtain ⟨bs, Ls, e, l1, l2, l3, l4⟩ := land_sound 64 as [] vs' m Vs F hld hrep
            simp only [List.nil_append] at e
            subst e
            have hownF : ∀ (i : Nat) (x : LB) (b : Nat), Ls[i]? = some x → x.owns b → b ∈ F := fun i x b hx ho => l2.subset (List.mem_filterMap.2 ⟨x, List.mem_of_getElem? hx, owns_iff.1 ho⟩)
            obtain ⟨r1, r2⟩ := l4 [] (ZZ X Ls) rfl (by
              rintro b (h | ⟨i, x, hx, ho⟩)
              · exact .inl h
              · exact .inr (hownF i x b hx ho))
            simp only [List.nil_append] at r1 r2
            have hSM : SimM w (· ∈ F) X m Ls w := by
              refine ⟨l1, r2, ?_, ?_, ?_, .refl _ _, hXl⟩
              · intro i j x y b hx hy ox oy
                exact fm_inj (l2.nodup_iff.2 hnd) hx hy (owns_iff.1 ox) (owns_iff.1 oy)
              · intro i x b hx ho
                exact .inl (hownF i x b hx ho)
              · intro i x b hx ho
                exact hFX b (hownF i x b hx ho)
            have hsz : Vs.toArray.size = vs'.length := by simp [l3]
            have hSim : Sim w (· ∈ F) X ⟨vs' ++ List.replicate (fn.ntmps - vs'.length) .undef, m⟩ Ls { tmps := Vs.toArray ++ Array.replicate (fn.ntmps - Vs.toArray.size) Go.undef, defers := [] } w := by
              refine ⟨hSM, by simp [l3], fun i hi => ?_, rfl⟩
              by_cases h1 : i < vs'.length
              · rw [nth_app_left h1]
                have := r1 i h1
                have e : (Vs.toArray ++ Array.replicate (fn.ntmps - Vs.toArray.size) Go.undef).getD i Go.undef = Vs[i]?.getD Go.undef := by
                  simp only [Array.getD_eq_getD_getElem?]
                  rw [Array.getElem?_append_left (by omega)]
                  simp
                rw [e]
                exact this
              · rw [nth_app_right (by omega), nth_replicate]
                have e : (Vs.toArray ++ Array.replicate (fn.ntmps - Vs.toArray.size) Go.undef).getD i Go.undef = Go.undef := by
                  simp only [Array.getD_eq_getD_getElem?]
                  rw [Array.getElem?_append_right (by omega)]
                  simp only [Array.getElem?_replicate]
                  split <;> rfl
                rw [e]
                exact .undef
            refine calls_of_wp hf hb (wp_mono (code_sound (kt := kt) (hws := hws) hC l1 code ac hc _ _ Ls _ w hSim (.refl _ _ _) hd) ?_)
            have fin : ∀ a' w', Holds w (· ∈ F) X Ls (fun s => match resA s rs with | some r => finA c vs' r s.m = some (out, outs) | none => False) a' w' → a'.defers = [] ∧ ∃ v, (results fn a'.tmps).run P w' = .ok v w' ∧
                ∃ V F', Ending.returned v = .returned V ∧ RepL w' (fun b => c.leaks = false ∨ X b ∨ b ∈ F') (out :: outs) (V :: outsV c.ms Vs) F' ∧ F'.Nodup ∧ (∀ b ∈ F', b ∈ F ∨ w.heap.size ≤ b) ∧ Frame w w' (· ∈ F) := by
              rintro a' w' ⟨s', L', h1, h2, h3⟩
              refine ⟨h1.df, ?_⟩
              cases hra : resA s' rs with
              | none => simp only [hra] at h3
              | some r =>
                simp only [hra] at h3
                obtain ⟨V, g1, g2⟩ := results_sound (P := P) h1 hrs hra
                obtain ⟨F', k1, k2, k3⟩ := fin_sound h1.mem g2 l3.symm (fun j hj => (r1 j hj).ext h2) h3
                exact ⟨V, g1, V, F', rfl, k1, k2, k3, h1.mem.fr⟩
            intro e a' w' hp
            cases e with
            | normal => exact fin a' w' hp
            | ret => exact fin a' w' hp
            | exit id =>
              obtain ⟨_, _, _, _, h⟩ := hp
              exact h.elim
            | goto l => exact hp.elim
            | panic ch => exact hp.elim
            | outgrown => exact hp.elim

end fn

end Go.Proofs.Ytnghlmogcbmlfaa
