/- A call by its contract. -/
import Derived.Test.YtnghlmogcbmlfaaAmV
namespace Go.Proofs.Ytnghlmogcbmlfaa
set_option linter.unusedVariables false
set_option linter.unusedSimpArgs false

/-- The program's function does what the contract says. -/
def Sound (P : Program) (f : FuncId) (c : Con) : Prop :=
  (∃ fn, P.funcs[f]? = some fn ∧ fn.name ≠ "runtime.NumGoroutine" ∧ fn.body.isSome = true) ∧
  ∀ (as : List AV) (out : AV) (outs : List AV), c.run as = some (out, outs) → ∀ (w : World) (Vs : List Value) (F : List Nat) (X : Nat → Prop), RepL w (fun b => X b ∨ b ∈ F) as Vs F → F.Nodup → (∀ b ∈ F, ¬ X b) → (∀ b, X b → b < w.heap.size) →
    Calls P f Vs.toArray w fun e w' => ∃ V F', e = .returned V ∧ RepL w' (fun b => c.leaks = false ∨ X b ∨ b ∈ F') (out :: outs) (V :: outsV c.ms Vs) F' ∧ F'.Nodup ∧ (∀ b ∈ F', b ∈ F ∨ w.heap.size ≤ b) ∧ Frame w w' (· ∈ F)

theorem memN_iff {x : Nat} : ∀ {l : List Nat}, memN x l = false → x ∉ l := by
  intro l
  induction l with
  | nil => intro _ h; simp at h
  | cons y r ih =>
    intro h
    simp only [memN] at h
    cases he : eqN x y with
    | true => simp [he] at h
    | false =>
      simp only [he] at h
      simp only [List.mem_cons, not_or]
      refine ⟨fun e => ?_, ih h⟩
      have := eqN_iff.2 e
      rw [he] at this
      cases this

theorem noTwice_nodup : ∀ {ids : List Nat}, noTwice ids = true → ids.Nodup := by
  intro ids
  induction ids with
  | nil => intro _; exact .nil
  | cons i r ih =>
    intro h
    simp only [noTwice] at h
    cases hm : memN i r with
    | true => simp [hm] at h
    | false =>
      simp only [hm] at h
      exact List.nodup_cons.2 ⟨memN_iff hm, ih h⟩

theorem bOf_some {L : List LB} {i b : Nat} (h : bOf L i = some b) : ∃ x, L[i]? = some x ∧ x.owns b := by
  unfold bOf at h
  cases hx : L[i]? with
  | none => simp [hx] at h
  | some x => exact ⟨x, rfl, owns_iff.2 (by simpa [hx] using h)⟩

theorem fm_inj : ∀ {Ls : List LB} {i j : Nat} {x y : LB} {b : Nat}, (Ls.filterMap blkOf).Nodup → Ls[i]? = some x → Ls[j]? = some y → blkOf x = some b → blkOf y = some b → i = j := by
  intro Ls
  induction Ls with
  | nil => intro i j x y b _ h; simp at h
  | cons z Ls ih =>
    intro i j x y b hn hi hj hx hy
    have hn2 : (Ls.filterMap blkOf).Nodup := by
      rw [List.filterMap_cons] at hn
      split at hn
      · exact hn
      · exact (List.nodup_cons.1 hn).2
    have hmem : ∀ (k : Nat) (u : LB), Ls[k]? = some u → blkOf u = some b → blkOf z ≠ some b := by
      intro k u hk hu hz
      rw [List.filterMap_cons, hz] at hn
      exact (List.nodup_cons.1 hn).1 (List.mem_filterMap.2 ⟨u, List.mem_of_getElem? hk, hu⟩)
    cases i with
    | zero =>
      simp only [List.getElem?_cons_zero, Option.some.injEq] at hi
      subst hi
      cases j with
      | zero => rfl
      | succ j => exact absurd hx (hmem j y (by simpa using hj) hy)
    | succ i =>
      cases j with
      | zero =>
        simp only [List.getElem?_cons_zero, Option.some.injEq] at hj
        subst hj
        exact absurd hy (hmem i x (by simpa using hi) hx)
      | succ j => exact congrArg (· + 1) (ih hn2 (by simpa using hi) (by simpa using hj) hx hy)

theorem home_mono {lb lb' : Nat → Option LB} (hl : ∀ i x, lb i = some x → lb' i = some x) {md : Mode} {v : AV} {V : Value} (h : home lb md v V) : home lb' md v V := by
  have row : ∀ {k : Kd} {v : AV} {V : Value}, rowHome lb k v V → rowHome lb' k v V := by
    intro k v V h id ver lo len e
    rcases h id ver lo len e with ⟨b, n, cap, h1, h2, h3⟩ | ⟨h1, h2⟩
    · exact .inl ⟨b, n, cap, h1, h2, hl _ _ h3⟩
    · exact .inr ⟨hl _ _ h1, h2⟩
  cases md <;> simp only [home] at h ⊢
  · exact row h
  · exact fun cs C e1 e2 j k u h1 h2 => row (h cs C e1 e2 j k u h1 h2)
  · intro id off e
    obtain ⟨b, h1, h2⟩ := h id off e
    exact ⟨b, h1, hl _ _ h2⟩

section calls
variable {P : Program} {w0 : World} {F0 X0 : Nat → Prop} {m : List Blk} {L : List LB} {w : World}

theorem fm_nodup (hs : SimM w0 F0 X0 m L w) : ∀ {ids : List Nat}, ids.Nodup → (ids.filterMap (bOf L)).Nodup := by
  intro ids
  induction ids with
  | nil => intro _; exact .nil
  | cons i r ih =>
    intro h
    obtain ⟨h1, h2⟩ := List.nodup_cons.1 h
    rw [List.filterMap_cons]
    split
    · exact ih h2
    · rename_i b hb
      refine List.nodup_cons.2 ⟨fun hin => ?_, ih h2⟩
      obtain ⟨j, hj, hbj⟩ := List.mem_filterMap.1 hin
      obtain ⟨x, hx, ox⟩ := bOf_some hb
      obtain ⟨y, hy, oy⟩ := bOf_some hbj
      exact h1 (hs.inj i j x y b hx hy ox oy ▸ hj)

def lentL (L : List LB) (kl rv : List Nat) : List LB := (List.range L.length).map fun i => if i ∈ kl ∧ i ∉ rv then .dead else L[i]?.getD .dead

theorem lentL_length {L : List LB} {kl rv : List Nat} : (lentL L kl rv).length = L.length := by simp [lentL]

theorem lentL_get {L : List LB} {kl rv : List Nat} {i : Nat} {x : LB} (h : (lentL L kl rv)[i]? = some x) : i < L.length ∧ (((i ∈ kl ∧ i ∉ rv) ∧ x = .dead) ∨ (¬ (i ∈ kl ∧ i ∉ rv) ∧ L[i]? = some x)) := by
  have hi := (List.getElem?_eq_some_iff.1 h).1
  rw [lentL_length] at hi
  refine ⟨hi, ?_⟩
  simp only [lentL, List.getElem?_map, List.getElem?_range hi, Option.map_some, Option.some.injEq] at h
  split at h
  · exact .inl ⟨by assumption, h.symm⟩
  · refine .inr ⟨by assumption, ?_⟩
    rw [List.getElem?_eq_getElem hi] at h ⊢
    simpa using h

theorem lentL_le {L : List LB} {kl rv : List Nat} {i : Nat} {x : LB} (h : L[i]? = some x) : ∃ y, (lentL L kl rv)[i]? = some y ∧ LE x y := by
  have hi := (List.getElem?_eq_some_iff.1 h).1
  simp only [lentL, List.getElem?_map, List.getElem?_range hi, Option.map_some]
  refine ⟨_, rfl, ?_⟩
  split
  · exact .inr (.inl rfl)
  · rw [h]; exact .refl x

/-- What is written lies where the small machine's memory says. -/
theorem conv_home (hs : SimM w0 F0 X0 m L w) {res : Bool} {m' : List Blk} : ∀ (d : Nat) (ms : List Mode) (vs as : List AV) (is : List Nat), conv res m m' d ms vs = some as → taken m d ms vs = some is → ∀ (j : Nat) (md : Mode) (v : AV) (V : Value), ms[j]? = some md → vs[j]? = some v → RepV w L (ZZ X0 L) v V → home (fun i => if i ∈ is then L[i]? else none) md v V := by
  intro d
  induction d with
  | zero => intro ms vs as is h; simp [conv] at h
  | succ d ih =>
    intro ms vs as is h ht j md v V h1 h2 hv
    cases ms with
    | nil => simp at h1
    | cons md' ms =>
      cases vs with
      | nil => simp at h2
      | cons v' vs =>
        simp only [conv] at h
        simp only [taken] at ht
        cases hc : conv res m m' d ms vs with
        | none => simp [hc] at h
        | some r =>
          cases htk : taken m d ms vs with
          | none => simp [htk] at ht
          | some is0 =>
            simp only [hc] at h
            simp only [htk] at ht
            have hsub : ∀ i ∈ is0, i ∈ is := by
              intro i hi
              cases md' <;> simp only at ht
              case own k =>
                cases v' <;> simp only [Option.some.injEq] at ht <;> subst ht <;> simp [hi]
              case mrow k =>
                cases v' <;> simp only [Option.some.injEq] at ht <;> subst ht <;> simp [hi]
              case agg ms2 =>
                cases v' <;> simp only at ht <;> try (simp at ht; done)
                split at ht
                · simp only [Option.some.injEq] at ht
                  subst ht
                  simp [hi]
                · simp at ht
              case tup ms2 =>
                cases v' <;> simp only at ht <;> try (simp at ht; done)
                split at ht
                · simp only [Option.some.injEq] at ht
                  subst ht
                  simp [hi]
                · simp at ht
              case box ms2 =>
                cases v' <;> simp only at ht <;> try (simp at ht; done)
                split at ht
                · split at ht
                  · simp only [Option.some.injEq] at ht
                    subst ht
                    simp [hi]
                  · simp at ht
                · simp at ht
              all_goals
                simp only [Option.some.injEq] at ht
                subst ht
                exact hi
            cases j with
            | succ j =>
              refine home_mono (fun i x hx => ?_) (ih ms vs r is0 hc htk j md v V (by simpa using h1) (by simpa using h2) hv)
              split at hx
              · rename_i hi
                rw [if_pos (hsub i hi)]
                exact hx
              · simp at hx
            | zero =>
              simp only [List.getElem?_cons_zero, Option.some.injEq] at h1 h2
              subst h1 h2
              cases md' <;> simp only [home]
              case mrow k =>
                intro id ver lo len e
                subst e
                simp only [Option.some.injEq] at ht
                subst ht
                simp only [List.mem_cons, true_or, if_true]
                simp only at h
                cases hw : whole k m (.ms id ver lo len) with
                | none => simp [hw] at h
                | some l =>
                  simp only [whole] at hw
                  cases hm : bnth m id with
                  | dead => simp [hm] at hw
                  | cells cs => simp [hm] at hw
                  | row v' k' l' =>
                    simp only [hm] at hw
                    cases he : eqN ver v' with
                    | false => simp [he] at hw
                    | true =>
                      obtain rfl := eqN_iff.1 he
                      simp only [he] at hw
                      split at hw
                      · rename_i hcc
                        obtain ⟨rfl, rfl⟩ := hcc
                        obtain ⟨ek, el⟩ := castK_some hw
                        subst ek
                        rcases hv.ms_inv with ⟨b, n', cap, ex, hcap, hL⟩ | ⟨n', A, _, hlen, ex, hL⟩ | ⟨b, off, n', ⟨hlen, hlo⟩, ex, hL⟩
                        · rcases hL with ⟨hL, hsz⟩ | ⟨z, hL, hg⟩
                          · obtain ⟨_, rfl, _⟩ := blk_row hs hL hm
                            exact .inl ⟨b, _, cap, by simpa using ex, hcap.2.2 rfl, hL⟩
                          · exact absurd rfl (blk_gone hs hL hg hm)
                        · rcases hL with hL | ⟨z, hL, hg⟩
                          · obtain ⟨_, rfl, _⟩ := blk_row0 hs hL hm
                            exact .inr ⟨hL, A, ex⟩
                          · exact absurd rfl (blk_gone hs hL hg hm)
                        · omega
                      · simp at hw
              case agg ms2 =>
                intro cs C e1 e2 j k u h3 h4
                subst e1 e2
                simp only at h ht
                cases hi : conv res m m' d ms2 cs with
                | none => simp [hi] at h
                | some cs' =>
                  cases hj : taken m d ms2 cs with
                  | none => simp [hj] at ht
                  | some is1 =>
                    simp only [hj, Option.some.injEq] at ht
                    subst ht
                    obtain ⟨Cs, e, hsz, hrr⟩ := hv.agg_inv
                    cases e
                    have hjl := (List.getElem?_eq_some_iff.1 h4).1
                    have hu := hrr j hjl
                    rw [nth_of h4] at hu
                    have := ih ms2 cs cs' is1 hi hj j (.mrow k) u (C.toList[j]?.getD Go.undef) h3 h4 (by simpa [Array.getD_eq_getD_getElem?] using hu)
                    refine home_mono (md := .mrow k) (fun i x hx => ?_) this
                    split at hx
                    · rename_i hin
                      rw [if_pos (List.mem_append.2 (.inl hin))]
                      exact hx
                    · simp at hx
              case box ms2 =>
                intro id off e
                subst e
                cases off with
                | succ off => simp at h
                | zero =>
                  simp only at h ht
                  cases hm : bnth m id with
                  | dead => simp [hm] at h
                  | row v k l => simp [hm] at h
                  | cells cs =>
                    simp only [hm] at ht
                    split at ht
                    · simp only [Option.some.injEq] at ht
                      subst ht
                      simp only [List.mem_cons, true_or, if_true]
                      obtain ⟨b, e, hL⟩ := hv.ptr_inv
                      rcases hL with hL | hL
                      · exact ⟨b, e, hL⟩
                      · have := blk_dead hs hL hm
                        simp at this
                    · simp at ht

theorem pure_taken : ∀ (d d' : Nat) (ms : List Mode) (vs : List AV) (is : List Nat), Mode.pure d ms = true → taken m d' ms vs = some is → is = [] := by
  intro d
  induction d with
  | zero => intro d' ms vs is h; simp [Mode.pure] at h
  | succ d ih =>
    intro d'
    induction d' with
    | zero => intro ms vs is _ h; simp [taken] at h
    | succ d' ih' =>
      intro ms vs is hp h
      cases ms with
      | nil => cases vs <;> simp [taken] at h; exact h
      | cons md ms =>
        cases vs with
        | nil => simp [taken] at h
        | cons v vs =>
          have tl : Mode.pure d ms = true → ∀ js, taken m d' ms vs = some js → js = [] := fun hq js hj => ih d' ms vs js hq hj
          simp only [taken] at h
          simp only [Mode.pure] at hp
          cases ht : taken m d' ms vs with
          | none => simp [ht] at h
          | some js =>
            simp only [ht] at h
            cases md <;> simp only at h hp <;> try (simp at hp; done)
            case agg ms2 =>
              cases hq : Mode.pure d ms2 with
              | false => simp [hq] at hp
              | true =>
                simp only [hq] at hp
                cases v <;> simp only at h <;> try (simp at h; done)
                rename_i cs
                cases hc : taken m d' ms2 cs with
                | none => simp [hc] at h
                | some ks =>
                  simp only [hc, Option.some.injEq] at h
                  rw [← h, ih d' ms2 cs ks hq hc, tl hp js ht]
                  rfl
            case tup ms2 =>
              cases hq : Mode.pure d ms2 with
              | false => simp [hq] at hp
              | true =>
                simp only [hq] at hp
                cases v <;> simp only at h <;> try (simp at h; done)
                rename_i cs
                cases hc : taken m d' ms2 cs with
                | none => simp [hc] at h
                | some ks =>
                  simp only [hc, Option.some.injEq] at h
                  rw [← h, ih d' ms2 cs ks hq hc, tl hp js ht]
                  rfl
            all_goals
              simp only [Option.some.injEq] at h
              rw [← h]
              exact tl hp js ht

theorem pure_anyM : ∀ (d : Nat) (ms : List Mode), Mode.pure d ms = true → anyM ms = false := by
  intro d
  induction d with
  | zero => intro ms h; simp [Mode.pure] at h
  | succ d ih =>
    intro ms h
    cases ms with
    | nil => rfl
    | cons md ms =>
      simp only [Mode.pure] at h
      cases md <;> simp only [anyM] at h ⊢ <;> try (simp at h; done)
      case agg ms2 =>
        split at h
        · exact ih ms h
        · simp at h
      case tup ms2 =>
        split at h
        · exact ih ms h
        · simp at h
      all_goals exact ih ms h

theorem pure_back : ∀ (d d' : Nat) (ms : List Mode) (vs : List AV) (is : List Nat) (m2 : List Blk), Mode.pure d ms = true → taken m d' ms vs = some is → back ms vs [] m2 = some m2 := by
  intro d
  induction d with
  | zero => intro d' ms vs is m2 h; simp [Mode.pure] at h
  | succ d ih =>
    intro d' ms vs is m2 hp h
    cases d' with
    | zero => simp [taken] at h
    | succ d' =>
      cases ms with
      | nil =>
        cases vs with
        | nil => rfl
        | cons v vs => simp [taken] at h
      | cons md ms =>
        cases vs with
        | nil => simp [taken] at h
        | cons v vs =>
          simp only [taken] at h
          simp only [Mode.pure] at hp
          cases ht : taken m d' ms vs with
          | none => simp [ht] at h
          | some js =>
            simp only [back]
            cases md <;> simp only at hp ⊢ <;> try (simp at hp; done)
            case agg ms2 =>
              cases hq : Mode.pure d ms2 with
              | false => simp [hq] at hp
              | true =>
                simp only [hq] at hp
                simp only [pure_anyM d ms2 hq]
                exact ih d' ms vs js m2 hp ht
            case tup ms2 =>
              cases hq : Mode.pure d ms2 with
              | false => simp [hq] at hp
              | true =>
                simp only [hq] at hp
                exact ih d' ms vs js m2 hp ht
            all_goals exact ih d' ms vs js m2 hp ht

theorem land_primL : ∀ (d : Nat) (cs : List AV), primL d cs = true → land (d + 1) cs m = some (cs, m) := by
  intro d
  induction d with
  | zero => intro cs h; cases cs with
    | nil => rfl
    | cons v cs => simp [primL] at h
  | succ d ih =>
    intro cs hp
    cases cs with
    | nil => rfl
    | cons v cs =>
      have h2 : primL d cs = true → land (d + 1) cs m = some (cs, m) := ih cs
      cases v <;> first
        | (exfalso; simp [primL] at hp; done)
        | (simp only [land, h2 hp])

theorem primL_more : ∀ (d k : Nat) (cs : List AV), primL d cs = true → primL (d + k) cs = true := by
  intro d
  induction d with
  | zero => intro k cs h; cases cs with
    | nil => cases k <;> rfl
    | cons v cs => simp [primL] at h
  | succ d ih =>
    intro k cs h
    cases cs with
    | nil => cases k <;> rfl
    | cons v cs =>
      rw [show d + 1 + k = (d + k) + 1 by omega]
      have h2 : primL d cs = true → primL (d + k) cs = true := ih k cs
      cases v <;> first
        | (exfalso; simp [primL] at h; done)
        | exact h2 h

theorem land_fuel {cs : List AV} (h : primL 60 cs = true) : land 63 cs m = some (cs, m) := land_primL 62 cs (primL_more 60 2 cs h)

/-- A call that turns no memory is a call. -/
theorem callP_callA {c : Con} {vs : List AV} {r : AV} (h : callP c vs m = some r) : callA c vs m = some (r, m) := by
  unfold callP at h
  cases hp : c.pure with
  | false => simp [hp] at h
  | true =>
    simp only [hp] at h
    unfold Con.pure at hp
    cases hq : Mode.pure 64 (c.rm :: c.ms) with
    | false => simp [hq] at hp
    | true =>
      simp only [hq, Bool.not_eq_true'] at hp
      have hms : Mode.pure 63 c.ms = true := by
        simp only [Mode.pure] at hq
        cases hrm : c.rm <;> simp only [hrm] at hq <;> try (simp at hq; done)
        all_goals first
          | exact hq
          | (split at hq
             · exact hq
             · simp at hq)
      unfold hand at h
      cases htk : taken m 64 c.ms vs with
      | none => simp [htk] at h
      | some ids =>
        obtain rfl := pure_taken 63 64 c.ms vs ids hms htk
        simp only [htk, noTwice, killAll] at h
        unfold callA hand
        simp only [htk, noTwice, killAll]
        cases hcv : conv false m m 64 c.ms vs with
        | none => simp [hcv] at h
        | some as =>
          simp only [hcv] at h ⊢
          cases hrun : c.run as with
          | none => simp [hrun] at h
          | some ro =>
            obtain ⟨r', outs⟩ := ro
            simp only [hrun] at h ⊢
            cases outs with
            | cons o os => simp at h
            | nil =>
              simp only at h
              cases hpr : primR r' with
              | false => simp [hpr] at h
              | true =>
                simp only [hpr, Option.some.injEq] at h
                subst h
                simp only [lent, hp]
                rw [pure_back 63 64 c.ms vs [] m hms htk]
                have hl : land 64 [r'] m = some ([r'], m) := by
                  cases r' <;> first
                    | (exfalso; simp [primR, primL] at hpr; done)
                    | rfl
                    | (have h63 := land_fuel (m := m) hpr
                       rw [land]
                       simp only [h63]
                       rfl)
                simp only [hl]

set_option maxHeartbeats 800000 in
theorem call_sound (hs : SimM w0 F0 X0 m L w) {f : FuncId} {c : Con} (hS : Sound P f c) {vs : List AV} {Vs : List Value} (hl : Vs.length = vs.length) (hr : ∀ j, j < vs.length → RepV w L (ZZ X0 L) (nth vs j) (Vs[j]?.getD Go.undef))
    {v : AV} {m' : List Blk} (hv : callA c vs m = some (v, m')) :
    Calls P f Vs.toArray w fun e w' => ∃ V L', e = .returned V ∧ SimM w0 F0 X0 m' L' w' ∧ Ext w L (ZZ X0 L) w' L' (ZZ X0 L') ∧ RepV w' L' (ZZ X0 L') v V := by
  unfold callA hand at hv
  cases htk : taken m 64 c.ms vs with
  | none => simp [htk] at hv
  | some ids =>
    simp only [htk] at hv
    cases htw : noTwice ids with
    | false => simp [htw] at hv
    | true =>
      simp only [htw] at hv
      cases hcv : conv false m (killAll m ids) 64 c.ms vs with
      | none => simp [hcv] at hv
      | some as =>
        simp only [hcv] at hv
        cases hrun : c.run as with
        | none => simp [hrun] at hv
        | some ro =>
          obtain ⟨r, outs⟩ := ro
          simp only [hrun] at hv
          cases hln : lent c m (killAll m ids) vs with
          | none => simp [hln] at hv
          | some m2 =>
            simp only [hln] at hv
            cases hbk : back c.ms vs outs m2 with
            | none => simp [hbk] at hv
            | some m3 =>
              simp only [hbk] at hv
              cases hld : land 64 [r] m3 with
              | none => simp [hld] at hv
              | some q =>
                obtain ⟨q, m4⟩ := q
                have hq : q = [v] ∧ m4 = m' := by
                  rw [hld] at hv
                  cases q with
                  | nil => simp at hv
                  | cons u q => cases q with
                    | nil => simp only [Option.some.injEq, Prod.mk.injEq] at hv; exact ⟨by rw [hv.1], hv.2⟩
                    | cons u' q => simp at hv
                obtain ⟨rfl, rfl⟩ := hq
                clear hv
                -- what is lent
                have hlent : ∃ is, (c.leaks = true → idsOf m 64 vs = some is) ∧ m2 = killAll (killAll m ids) is := by
                  unfold lent at hln
                  cases hlk : c.leaks with
                  | false =>
                    simp only [hlk, Option.some.injEq] at hln
                    exact ⟨[], fun h => by simp at h, hln.symm⟩
                  | true =>
                    simp only [hlk] at hln
                    cases hid : idsOf m 64 vs with
                    | none => simp [hid] at hln
                    | some is =>
                      simp only [hid, Option.some.injEq] at hln
                      exact ⟨is, fun _ => rfl, hln.symm⟩
                obtain ⟨is, his, rfl⟩ := hlent
                have hkill : ∀ i, bnth (killAll (killAll m ids) is) i = if i ∈ ids ++ is then .dead else bnth m i := by
                  intro i
                  rw [killAll_bnth, killAll_bnth]
                  by_cases h1 : i ∈ is <;> by_cases h2 : i ∈ ids <;> simp [h1, h2]
                have hids := noTwice_nodup htw
                let Xc : Nat → Prop := fun b => X0 b ∨ (c.leaks = true ∧ ∃ id x, id ∉ ids ∧ id ∉ is ∧ L[id]? = some x ∧ x.owns b)
                let Zc : Nat → Prop := fun b => Xc b ∨ ∃ id x, id ∈ ids ∧ L[id]? = some x ∧ x.owns b
                have hZ1 : ∀ b, Zc b → ZZ X0 L b := by
                  rintro b ((h | ⟨_, id, x, _, _, h1, h2⟩) | ⟨id, x, _, h1, h2⟩)
                  · exact .inl h
                  · exact .inr ⟨id, x, h1, h2⟩
                  · exact .inr ⟨id, x, h1, h2⟩
                have hZ2 : ∀ (id : Nat) (x : LB) (b : Nat), id ∉ ids → (c.leaks = true → id ∈ is) → L[id]? = some x → x.owns b → ¬ Zc b := by
                  rintro id x b h1 h2 hx ho ((h | ⟨h3, id2, y, h4, h5, hy, hoy⟩) | ⟨id2, y, h4, hy, hoy⟩)
                  · exact hs.nx id x b hx ho h
                  · exact h5 (hs.inj id id2 x y b hx hy ho hoy ▸ h2 h3)
                  · exact h1 (hs.inj id id2 x y b hx hy ho hoy ▸ h4)
                have hNm : Nm (fun id => c.leaks = true → id ∈ is) m vs := by
                  cases hlk : c.leaks with
                  | false => exact .inl (fun i h => by simp at h)
                  | true => exact .inr ⟨64, is, his hlk, fun i hi _ => hi⟩
                obtain ⟨F, hRL, hsub⟩ := conv_sound (ids := ids) (N := fun id => c.leaks = true → id ∈ is) (Zc := Zc) hs false 64 c.ms vs as ids Vs hcv htk hNm hl hr (.inl ⟨hZ1, hZ2⟩)
                have hFown : ∀ b ∈ F, ∃ id x, id ∈ ids ∧ L[id]? = some x ∧ x.owns b := by
                  intro b hb
                  obtain ⟨id, hid, hbo⟩ := List.mem_filterMap.1 (hsub.subset hb)
                  obtain ⟨x, hx, ox⟩ := bOf_some hbo
                  exact ⟨id, x, hid, hx, ox⟩
                have hFnd : F.Nodup := hsub.nodup (fm_nodup hs hids)
                have hFX : ∀ b ∈ F, ¬ Xc b := by
                  rintro b hb (h | ⟨_, id2, y, h4, h5, hy, hoy⟩)
                  · obtain ⟨id, x, _, hx, ox⟩ := hFown b hb
                    exact hs.nx id x b hx ox h
                  · obtain ⟨id, x, hid, hx, ox⟩ := hFown b hb
                    exact h4 (hs.inj id id2 x y b hx hy ox hoy ▸ hid)
                have hXl : ∀ b, Xc b → b < w.heap.size := by
                  rintro b (h | ⟨_, id2, y, h4, h5, hy, hoy⟩)
                  · exact hs.xl b h
                  · exact hs.lt hy hoy
                refine Calls.mono (hS.2 as r outs hrun w Vs F Xc (hRL.mono (fun b hb => ?_)) hFnd hFX hXl) ?_
                · rcases hb with hb | hb
                  · exact .inl hb
                  · exact .inr (hFown b hb)
                rintro e w' ⟨V, F', rfl, hrep, hnd', hF', hfr⟩
                obtain ⟨F1, F2, rfl, hR1, hR2⟩ := hrep.cons_inv
                rw [List.nodup_append] at hnd'
                obtain ⟨nd1, nd2, nd3⟩ := hnd'
                -- what is laid back
                let lb : Nat → Option LB := fun i => if i ∈ ids then L[i]? else none
                let bl : Nat → Option Nat := fun i => (lb i).bind blkOf
                have hlb : ∀ i x, lb i = some x → i ∈ ids ∧ L[i]? = some x := by
                  intro i x h
                  simp only [lb] at h
                  split at h
                  · exact ⟨by assumption, h⟩
                  · simp at h
                have hm2l : (killAll (killAll m ids) is).length = m.length := by rw [killAll_length, killAll_length]
                obtain ⟨n1, Ls1, rv, F20, f1, f2, f3, f4, f40, f5, f6⟩ := back_sound (lb := lb) c.ms vs outs _ m3 Vs F2 hbk hR2 hl (fun i x hx => by
                    rw [hm2l, ← hs.ll]
                    exact (List.getElem?_eq_some_iff.1 (hlb i x hx).2).1) (fun j md v V h1 h2 h3 => by
                    refine conv_home hs 64 c.ms vs as ids hcv htk j md v V h1 h2 ?_
                    have hj := (List.getElem?_eq_some_iff.1 h2).1
                    have hjr := hr j hj
                    rw [nth_of h2, h3] at hjr
                    exact hjr)
                obtain ⟨bs2, Ls2, g1, g2, g3, g4, g5⟩ := land_sound 64 [r] m3 [v] m4 [V] F1 hld hR1
                have hlm3 : m3.length = m.length + n1 := by rw [f1, hm2l]
                have hall : ∀ b, b ∈ F1 ∨ b ∈ F2 → b ∈ F ∨ w.heap.size ≤ b := fun b hb => hF' b (List.mem_append.2 hb)
                have hrvids : ∀ i ∈ rv, i ∈ ids := by
                  intro i hi
                  obtain ⟨x, hx⟩ := f5 i hi
                  exact (hlb i x hx).1
                have f4s : ∀ b, b ∈ rv.filterMap bl ++ Ls1.filterMap blkOf → b ∈ F2 := fun b hb => f40.subset (f4.subset hb)
                let Lb := lentL L (ids ++ is) rv
                let Lf := Lb ++ (Ls1 ++ Ls2)
                have hLbl : Lb.length = m.length := by rw [← hs.ll]; exact lentL_length
                -- who owns what
                have hnew : ∀ (j : Nat) (x : LB) (b : Nat), (Ls1 ++ Ls2)[j]? = some x → x.owns b → b ∈ F1 ∨ b ∈ F2 := by
                  intro j x b hx ho
                  have hmem := List.mem_of_getElem? hx
                  rcases List.mem_append.1 hmem with h | h
                  · exact .inr (f4s _ (List.mem_append.2 (.inr (List.mem_filterMap.2 ⟨x, h, owns_iff.1 ho⟩))))
                  · exact .inl (g3.subset (List.mem_filterMap.2 ⟨x, h, owns_iff.1 ho⟩))
                have hndall : (rv.filterMap bl ++ (Ls1 ++ Ls2).filterMap blkOf).Nodup := by
                  rw [List.filterMap_append, ← List.append_assoc]
                  have hp : (rv.filterMap bl ++ Ls1.filterMap blkOf ++ Ls2.filterMap blkOf).Perm (F1 ++ F20) := (f4.append g3).trans List.perm_append_comm
                  exact hp.nodup_iff.2 ((List.Sublist.append_left f40 F1).nodup (List.nodup_append.2 ⟨nd1, nd2, nd3⟩))
                obtain ⟨ndr, ndn, ndx⟩ := List.nodup_append.1 hndall
                have hold : ∀ (i : Nat) (x : LB) (b : Nat), Lb[i]? = some x → x.owns b → L[i]? = some x ∧ (i ∈ rv ∨ (i ∉ ids ∧ i ∉ is)) := by
                  intro i x b hx ho
                  obtain ⟨hi, h | ⟨h1, h2⟩⟩ := lentL_get hx
                  · rw [h.2] at ho
                    exact ho.elim
                  · refine ⟨h2, ?_⟩
                    by_cases hrv : i ∈ rv
                    · exact .inl hrv
                    · right
                      simp only [List.mem_append, hrv, not_false_eq_true, and_true, not_or] at h1
                      exact h1
                have hsplit : ∀ (i : Nat) (x : LB), Lf[i]? = some x → Lb[i]? = some x ∨ (m.length ≤ i ∧ (Ls1 ++ Ls2)[i - m.length]? = some x) := by
                  intro i x hx
                  by_cases hi : i < Lb.length
                  · left
                    rw [List.getElem?_append_left hi] at hx
                    exact hx
                  · right
                    rw [List.getElem?_append_right (by omega), hLbl] at hx
                    exact ⟨by omega, hx⟩
                have hOwnF : ∀ b, Owns Lf b → (∃ i x, L[i]? = some x ∧ x.owns b ∧ (i ∈ rv ∨ (i ∉ ids ∧ i ∉ is))) ∨ b ∈ F1 ∨ b ∈ F2 := by
                  rintro b ⟨i, x, hx, ho⟩
                  rcases hsplit i x hx with h | ⟨_, h⟩
                  · obtain ⟨h1, h2⟩ := hold i x b h ho
                    exact .inl ⟨i, x, h1, ho, h2⟩
                  · exact .inr (hnew _ x b h ho)
                have hrvF : ∀ (i : Nat) (x : LB) (b : Nat), L[i]? = some x → x.owns b → i ∈ rv → b ∈ rv.filterMap bl := by
                  intro i x b hx ho hi
                  obtain ⟨y, hy⟩ := f5 i hi
                  have := (hlb i y hy).2
                  rw [this, Option.some.injEq] at hx
                  subst hx
                  exact List.mem_filterMap.2 ⟨i, hi, by simp [bl, hy, owns_iff.1 ho]⟩
                have hZr : ∀ b, ZZ X0 Lf b → c.leaks = false ∨ Xc b ∨ b ∈ F1 ++ F2 := by
                  intro b hb
                  cases hlk : c.leaks with
                  | false => exact .inl rfl
                  | true =>
                    right
                    rcases hb with hb | hb
                    · exact .inl (.inl hb)
                    · rcases hOwnF b hb with ⟨i, x, hx, ho, h | ⟨h1, h2⟩⟩ | h
                      · exact .inr (List.mem_append.2 (.inr (f4s _ (List.mem_append.2 (.inl (hrvF i x b hx ho h))))))
                      · exact .inl (.inr ⟨hlk, i, x, h1, h2, hx, ho⟩)
                      · exact .inr (List.mem_append.2 h)
                have hFZ : ∀ b ∈ F, Owns L b := fun b hb => by
                  obtain ⟨id, x, _, hx, ox⟩ := hFown b hb
                  exact ⟨id, x, hx, ox⟩
                have hExt : Ext w L (ZZ X0 L) w' Lf (ZZ X0 Lf) := by
                  refine ⟨hfr.size, fun b hb hz => hfr.same b hb (fun h => hz (.inr (hFZ b h))), hfr.sz, fun b hb => ?_, fun i x hx => ?_⟩
                  · rcases hb with hb | hb
                    · exact .inl (.inl hb)
                    · rcases hOwnF b hb with ⟨i, x, hx, ho, _⟩ | h
                      · exact .inl (.inr ⟨i, x, hx, ho⟩)
                      · rcases hall b h with h | h
                        · exact .inl (.inr (hFZ b h))
                        · exact .inr h
                  · obtain ⟨y, hy, hle⟩ := lentL_le (kl := ids ++ is) (rv := rv) hx
                    exact ⟨y, by rw [List.getElem?_append_left (List.getElem?_eq_some_iff.1 hy).1]; exact hy, hle⟩
                obtain ⟨k1, k2⟩ := f6 Lb (ZZ X0 Lf) (by rw [hLbl, hm2l]) hZr
                obtain ⟨j1, j2⟩ := g5 (Lb ++ Ls1) (ZZ X0 Lf) (by simp [hLbl, hlm3, f2]) hZr
                have hSim : SimM w0 F0 X0 m4 Lf w' := by
                  refine ⟨?_, ?_, ?_, ?_, ?_, ?_, ?_⟩
                  · simp only [Lf, List.length_append, hLbl, g1, hlm3, f2, g2]
                    omega
                  · intro i x hx
                    rcases hsplit i x hx with h | ⟨hi, h⟩
                    · obtain ⟨hi, hc⟩ := lentL_get h
                      rw [hs.ll] at hi
                      have hb4 : bnth m4 i = bnth m3 i := by rw [g1]; exact bnth_app_left (by omega)
                      rcases hc with ⟨⟨hk, hnr⟩, rfl⟩ | ⟨hk, hL⟩
                      · rw [hb4, f3 i (by omega) hnr, hkill, if_pos hk]
                        trivial
                      · by_cases hir : i ∈ rv
                        · obtain ⟨y, hy⟩ := f5 i hir
                          have := (hlb i y hy).2
                          rw [this, Option.some.injEq] at hL
                          subst hL
                          rw [hb4]
                          have := (k1 i hir y hy).append (L2 := Ls2)
                          rw [List.append_assoc] at this
                          exact this
                        · have hnk : i ∉ ids ++ is := fun h => hk ⟨h, hir⟩
                          rw [hb4, f3 i (by omega) hir, hkill, if_neg hnk]
                          refine (hs.blk i x hL).ext hExt (fun b ho => hfr.same b (hs.lt hL ho) (fun hbF => ?_))
                          obtain ⟨id, y, hid, hy, oy⟩ := hFown b hbF
                          exact hnk (List.mem_append.2 (.inl (hs.inj i id x y b hL hy ho oy ▸ hid)))
                    · by_cases hj : i - m.length < Ls1.length
                      · rw [List.getElem?_append_left hj] at h
                        have := (k2 _ x h).append (L2 := Ls2)
                        rw [List.append_assoc, hm2l] at this
                        have e : m.length + (i - m.length) = i := by omega
                        rw [e] at this
                        rw [g1, bnth_app_left (by omega)]
                        exact this
                      · rw [List.getElem?_append_right (by omega)] at h
                        have := j2 _ x h
                        rw [List.append_assoc] at this
                        have e : i = m3.length + (i - m.length - Ls1.length) := by omega
                        rw [g1]
                        conv => enter [5]; rw [e]
                        rw [bnth_append_right]
                        exact this
                  · intro i j x y b hx hy ox oy
                    have mixed : ∀ (i j : Nat) (x y : LB), Lb[i]? = some x → (Ls1 ++ Ls2)[j]? = some y → x.owns b → y.owns b → False := by
                      intro i j x y hx hy ox oy
                      obtain ⟨h1, h2⟩ := hold i x b hx ox
                      rcases h2 with h2 | ⟨h2, _⟩
                      · exact ndx b (hrvF i x b h1 ox h2) b (List.mem_filterMap.2 ⟨y, List.mem_of_getElem? hy, owns_iff.1 oy⟩) rfl
                      · rcases hall b (hnew j y b hy oy) with h | h
                        · obtain ⟨id, z, hid, hz, oz⟩ := hFown b h
                          exact h2 (hs.inj i id x z b h1 hz ox oz ▸ hid)
                        · have := hs.lt h1 ox
                          omega
                    rcases hsplit i x hx with h | ⟨hi, h⟩
                    · rcases hsplit j y hy with k | ⟨hj, k⟩
                      · exact hs.inj i j x y b (hold i x b h ox).1 (hold j y b k oy).1 ox oy
                      · exact (mixed i _ x y h k ox oy).elim
                    · rcases hsplit j y hy with k | ⟨hj, k⟩
                      · exact (mixed j _ y x k h oy ox).elim
                      · have := fm_inj ndn h k (owns_iff.1 ox) (owns_iff.1 oy)
                        omega
                  · intro i x b hx ho
                    rcases hOwnF b ⟨i, x, hx, ho⟩ with ⟨j, y, hy, oy, _⟩ | h
                    · exact hs.own j y b hy oy
                    · rcases hall b h with h | h
                      · obtain ⟨id, y, _, hy, oy⟩ := hFown b h
                        exact hs.own id y b hy oy
                      · exact .inr (Nat.le_trans hs.fr.size h)
                  · intro i x b hx ho hX
                    rcases hOwnF b ⟨i, x, hx, ho⟩ with ⟨j, y, hy, oy, _⟩ | h
                    · exact hs.nx j y b hy oy hX
                    · rcases hall b h with h | h
                      · obtain ⟨id, y, _, hy, oy⟩ := hFown b h
                        exact hs.nx id y b hy oy hX
                      · have := hs.xl b hX
                        omega
                  · refine hs.fr.trans hfr (fun b hb hF => ?_)
                    obtain ⟨id, y, _, hy, oy⟩ := hFown b hF
                    rcases hs.own id y b hy oy with h | h
                    · exact h
                    · omega
                  · intro b hX
                    exact Nat.lt_of_lt_of_le (hs.xl b hX) hfr.size
                refine ⟨V, Lf, rfl, hSim, hExt, ?_⟩
                have := j1 0 (by simp)
                rw [List.append_assoc] at this
                simpa [nth] using this

end calls

end Go.Proofs.Ytnghlmogcbmlfaa
