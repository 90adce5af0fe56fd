/- What is handed over, and what is laid into memory. -/
import Derived.Test.YtnghlmogcbmlfaaAmT
namespace Go.Proofs.Ytnghlmogcbmlfaa
set_option linter.unusedVariables false
set_option linter.unusedSimpArgs false

def primB : AV → Bool
  | .bool _ | .int _ _ | .str _ | .err _ => true
  | _ => false

theorem RepV.prim {w : World} {Z Z2 : Nat → Prop} {L L2 : List LB} {v : AV} {V : Value} (h : RepV w L Z v V) (hp : primB v = true) : RepV w L2 Z2 v V := by
  cases h with
  | bool b => exact .bool b
  | int k n h => exact .int k n h
  | str s h => exact .str s h
  | err0 => exact .err0
  | err1 t x => exact .err1 t x
  | _ => simp [primB] at hp

theorem plain_some {v u : AV} (h : plain v = some u) : u = v ∧ primB v = true := by
  cases v <;> simp [plain] at h <;> subst h <;> exact ⟨rfl, rfl⟩

theorem enc_primAll (k : Kd) (x : T k) (h : kdImm k = false) : (enc k x).all primB = true := by cases k <;> first | rfl | simp [kdImm] at h

theorem enc_prim (k : Kd) (x : T k) (h : kdImm k = false) (j : Nat) (hj : j < wid k) : primB (nth (enc k x) j) = true := by
  have hl : j < (enc k x).length := by rw [enc_length]; exact hj
  rw [nth_eq hl]
  exact List.all_eq_true.1 (enc_primAll k x h) _ (List.getElem_mem hl)

section lend
variable {P : Program} {w0 : World} {F0 X0 : Nat → Prop} {m : List Blk} {L : List LB} {w : World} {ids : List Nat} {N Zc : Nat → Prop}

theorem whole_sound (hs : SimM w0 F0 X0 m L w) {k : Kd} {v : AV} {V : Value} {l : List (T k)} (hv : RepV w L (ZZ X0 L) v V) (h : whole k m v = some l) (hz : (∀ b, Zc b → ZZ X0 L b) ∨ kdImm k = false) :
    (∃ b, Row w Zc k l V b ∧ ∃ id v0 lo len, v = .ms id v0 lo len ∧ bOf L id = some b) ∨ (l = [] ∧ (∃ p, V = .slice p 0 0) ∧ ∀ id v0 lo len, v = .ms id v0 lo len → bOf L id = none) := by
  cases v <;> simp only [whole] at h <;> try (simp at h; done)
  case nil =>
    simp only [Option.some.injEq] at h
    subst h
    obtain ⟨p, e⟩ := hv.nil_inv
    exact .inr ⟨rfl, ⟨p, e⟩, fun _ _ _ _ h => by cases h⟩
  case ms id v0 lo len =>
    cases hm : bnth m id with
    | dead => simp [hm] at h
    | cells cs => simp [hm] at h
    | row v' k' l' =>
      simp only [hm] at h
      cases he : eqN v0 v' with
      | false => simp [he] at h
      | true =>
        obtain rfl := eqN_iff.1 he
        simp only [he] at h
        split at h
        · rename_i hc
          obtain ⟨rfl, rfl⟩ := hc
          obtain ⟨ek, el⟩ := castK_some h
          subst ek
          obtain rfl : l' = l := el.symm
          rcases hv.ms_inv with ⟨b, n', cap, ex, hcap, hL⟩ | ⟨n', A, _, hlen, ex, hL⟩ | ⟨b, off, n', ⟨hlen, hlo⟩, ex, hL⟩
          · rcases hL with ⟨hL, hsz⟩ | ⟨z, hL, hg⟩
            · obtain ⟨_, rfl, hml, C, t, z, hh, hnm, hsz2, hr⟩ := blk_row hs hL hm
              refine .inl ⟨b, ⟨cap, C, t, z, by simpa using ex, hcap.2.2 rfl, hcap.2.1, hcap.1, hh, hnm, ?_, fun i x hx j hj => ?_⟩, id, v0, 0, _, rfl, by simp [bOf, hL, blkOf]⟩
              · have : szOf w b = C.size := by simp [szOf, hh]
                rw [this] at hsz
                simpa using hsz
              · rcases hz with hz | hz
                · exact (hr i x hx j hj).strip (enc_clean k x j hj) hz
                · exact (hr i x hx j hj).prim (enc_prim k x hz j hj)
            · exact absurd rfl (blk_gone hs hL hg hm)
          · rcases hL with hL | ⟨z, hL, hg⟩
            · exact .inr ⟨List.length_eq_zero_iff.1 hlen, ⟨A, ex⟩, fun _ _ _ _ h => by cases h; simp [bOf, hL, blkOf]⟩
            · exact absurd rfl (blk_gone hs hL hg hm)
          · omega
        · simp at h

theorem sub_tail {L : List LB} {id : Nat} {is : List Nat} {F : List Nat} (h : F.Sublist (is.filterMap (bOf L))) : F.Sublist ((id :: is).filterMap (bOf L)) :=
  h.trans ((List.sublist_cons_self id is).filterMap _)

theorem sub_cons {L : List LB} {id b : Nat} {is : List Nat} {F : List Nat} (hb : bOf L id = some b) (h : F.Sublist (is.filterMap (bOf L))) : (b :: F).Sublist ((id :: is).filterMap (bOf L)) := by
  rw [List.filterMap_cons, hb]
  exact h.cons_cons b

theorem sub_app {L : List LB} {is js : List Nat} {F G : List Nat} (h : F.Sublist (is.filterMap (bOf L))) (h2 : G.Sublist (js.filterMap (bOf L))) : (F ++ G).Sublist ((is ++ js).filterMap (bOf L)) := by
  rw [List.filterMap_append]
  exact h.append h2

/-- What is handed over. -/
theorem conv_sound (hs : SimM w0 F0 X0 m L w) (res : Bool) :
    ∀ (d : Nat) (ms : List Mode) (vs as : List AV) (is : List Nat) (Vs : List Value), conv res m (killAll m ids) d ms vs = some as → taken m d ms vs = some is → Nm N m vs → Vs.length = vs.length →
      (∀ j, j < vs.length → RepV w L (ZZ X0 L) (nth vs j) (Vs[j]?.getD Go.undef)) →
      (((∀ b, Zc b → ZZ X0 L b) ∧ (∀ id x b, id ∉ ids → N id → L[id]? = some x → x.owns b → ¬ Zc b)) ∨ (res = true ∧ ∃ d', leak d' ms = false)) →
      ∃ F, RepL w Zc as Vs F ∧ F.Sublist (is.filterMap (bOf L)) := by
  intro d
  induction d with
  | zero => intro ms vs as is Vs h; simp [conv] at h
  | succ d ih =>
    intro ms vs as is Vs h ht hn hl hr hz
    cases ms with
    | nil =>
      cases vs with
      | cons v r => simp [conv] at h
      | nil =>
        simp only [conv, Option.some.injEq] at h
        simp only [taken, Option.some.injEq] at ht
        subst h ht
        obtain rfl := List.length_eq_zero_iff.1 hl
        exact ⟨[], .nil, List.nil_sublist _⟩
    | cons md ms =>
      cases vs with
      | nil => simp [conv] at h
      | cons v vs =>
        cases Vs with
        | nil => simp at hl
        | cons V Vs =>
          simp only [conv] at h
          simp only [taken] at ht
          cases hc : conv res m (killAll m ids) d ms vs with
          | none => simp [hc] at h
          | some r =>
            cases htk : taken m d ms vs with
            | none => simp [htk] at ht
            | some is0 =>
              simp only [hc] at h
              simp only [htk] at ht
              have hzt : (((∀ b, Zc b → ZZ X0 L b) ∧ (∀ id x b, id ∉ ids → N id → L[id]? = some x → x.owns b → ¬ Zc b)) ∨ (res = true ∧ ∃ d', leak d' ms = false)) := by
                refine hz.imp (fun h => h) fun ⟨h1, d', h2⟩ => ⟨h1, ?_⟩
                cases d' with
                | zero => simp [leak] at h2
                | succ d' =>
                  refine ⟨d', ?_⟩
                  simp only [leak] at h2
                  cases md <;> simp only at h2 <;> try (simp at h2; done)
                  all_goals first
                    | exact h2
                    | (split at h2
                       · simp at h2
                       · exact h2)
              obtain ⟨F, g1, g2⟩ := ih ms vs r is0 Vs hc htk hn.tail (by simpa using hl) (fun j hj => by simpa [nth] using hr (j + 1) (by simpa using hj)) hzt
              have hv : RepV w L (ZZ X0 L) v V := by simpa [nth] using hr 0 (by simp)
              cases md with
              | v =>
                simp only [Option.some.injEq] at ht
                subst ht
                cases res with
                | true =>
                  simp only at h
                  have other : ∀ u, plain v = some u → as = u :: r → ∃ F, RepL w Zc as (V :: Vs) F ∧ F.Sublist (is0.filterMap (bOf L)) := by
                    rintro u hu rfl
                    obtain ⟨rfl, hp⟩ := plain_some hu
                    exact ⟨F, .plain (hv.prim hp) g1, g2⟩
                  cases v <;> simp only at h <;> try (simp [plain] at h; done)
                  case agg cs =>
                    cases hm : mapO plain cs with
                    | none => simp [hm] at h
                    | some cs' =>
                      simp only [hm, Option.some.injEq] at h
                      subst h
                      obtain ⟨Cs, e, hsz, hrr⟩ := hv.agg_inv
                      obtain ⟨m1, m2⟩ := mapO_some hm
                      refine ⟨F, .plain ?_ g1, g2⟩
                      rw [e]
                      refine .agg cs' Cs (by omega) (fun j hj => ?_)
                      have hj' : j < cs.length := by omega
                      obtain ⟨y, hy, hf⟩ := m2 j cs[j] (List.getElem?_eq_getElem hj')
                      obtain ⟨rfl, hp⟩ := plain_some hf
                      rw [nth_of hy]
                      have := hrr j hj'
                      rw [nth_eq hj'] at this
                      exact this.prim hp
                  case bool b => exact other (.bool b) rfl (by simpa [plain] using h.symm)
                  case int k n => exact other (.int k n) rfl (by simpa [plain] using h.symm)
                  case str b => exact other (.str b) rfl (by simpa [plain] using h.symm)
                  case err b => exact other (.err b) rfl (by simpa [plain] using h.symm)
                | false =>
                  simp only at h
                  rcases hz with ⟨ha, hb⟩ | ⟨h1, _⟩
                  · cases hi : im (killAll m ids) d [v] with
                    | none => simp [hi] at h
                    | some q =>
                      obtain ⟨q1, q2⟩ := im_sound hs ha hb d [v] q (fun _ => V) hi hn.head (fun j hj => by
                        obtain rfl : j = 0 := by simpa using hj
                        exact hv)
                      cases q with
                      | nil => simp at q1
                      | cons u q =>
                        cases q with
                        | cons u' q => simp at q1
                        | nil =>
                          simp only [hi, Option.some.injEq] at h
                          subst h
                          exact ⟨F, .plain (q2 0 (by simp)) g1, g2⟩
                  · simp at h1
              | fn =>
                simp only [Option.some.injEq] at ht
                subst ht
                rcases hz with ⟨ha, hb⟩ | ⟨_, d', h1⟩
                · cases v <;> simp only at h <;> try (simp at h; done)
                  rename_i f cs
                  cases hi : im (killAll m ids) d cs with
                  | none => simp [hi] at h
                  | some cs' =>
                    simp only [hi, Option.some.injEq] at h
                    subst h
                    obtain ⟨Cs, e, hsz, hrr⟩ := hv.fn_inv
                    obtain ⟨q1, q2⟩ := im_sound hs ha hb d cs cs' (fun j => Cs.getD j Go.undef) hi hn.fn hrr
                    exact ⟨F, .plain (by rw [e]; exact .fn f cs' Cs (by omega) q2) g1, g2⟩
                · cases d' <;> simp [leak] at h1
              | imm k =>
                simp only [Option.some.injEq] at ht
                subst ht
                rcases hz with ⟨ha, hb⟩ | ⟨_, d', h1⟩
                · cases hi : asList k (killAll m ids) v with
                  | none => simp [hi] at h
                  | some l =>
                    simp only [hi, Option.some.injEq] at h
                    subst h
                    obtain ⟨q1, q2⟩ := asList_kill hi
                    exact ⟨F, .plain (sl_sound hs ha hb hv q1 (fun id v0 lo len e => ⟨q2 _ _ _ _ e, by rw [e] at hn; exact hn.ms⟩)) g1, g2⟩
                · cases d' <;> simp [leak] at h1
              | own k =>
                cases hi : whole k m v with
                | none => simp [hi] at h
                | some l =>
                  simp only [hi, Option.some.injEq] at h
                  subst h
                  have hsub : F.Sublist (is.filterMap (bOf L)) := by
                    cases v <;> simp only [Option.some.injEq] at ht <;> subst ht <;> first | exact g2 | exact sub_tail g2
                  have hzk : (∀ b, Zc b → ZZ X0 L b) ∨ kdImm k = false := by
                    refine hz.imp And.left fun ⟨_, d', h2⟩ => ?_
                    cases d' with
                    | zero => simp [leak] at h2
                    | succ d' =>
                      simp only [leak] at h2
                      cases hk : kdImm k with
                      | false => rfl
                      | true => simp [hk] at h2
                  rcases whole_sound hs hv hi hzk with ⟨b, hrow, id, v0, lo, len, e, hbo⟩ | ⟨rfl, ⟨p, e⟩, _⟩
                  · subst e
                    simp only [Option.some.injEq] at ht
                    subst ht
                    exact ⟨b :: F, .own hrow g1, sub_cons hbo g2⟩
                  · subst e
                    exact ⟨F, .own0 g1, hsub⟩
              | mrow k =>
                cases hi : whole k m v with
                | none => simp [hi] at h
                | some l =>
                  simp only [hi, Option.some.injEq] at h
                  subst h
                  have hsub : F.Sublist (is.filterMap (bOf L)) := by
                    cases v <;> simp only [Option.some.injEq] at ht <;> subst ht <;> first | exact g2 | exact sub_tail g2
                  have hzk : (∀ b, Zc b → ZZ X0 L b) ∨ kdImm k = false := by
                    refine hz.imp And.left fun ⟨_, d', h2⟩ => ?_
                    cases d' with
                    | zero => simp [leak] at h2
                    | succ d' =>
                      simp only [leak] at h2
                      cases hk : kdImm k with
                      | false => rfl
                      | true => simp [hk] at h2
                  rcases whole_sound hs hv hi hzk with ⟨b, hrow, id, v0, lo, len, e, hbo⟩ | ⟨rfl, ⟨p, e⟩, _⟩
                  · subst e
                    simp only [Option.some.injEq] at ht
                    subst ht
                    exact ⟨b :: F, .mrow hrow g1, sub_cons hbo g2⟩
                  · subst e
                    exact ⟨F, .mrow0 g1, hsub⟩
              | agg ms2 =>
                cases v <;> simp only at h <;> try (simp at h; done)
                rename_i cs
                cases hi : conv res m (killAll m ids) d ms2 cs with
                | none => simp [hi] at h
                | some cs' =>
                  simp only [hi, Option.some.injEq] at h
                  subst h
                  cases htc : taken m d ms2 cs with
                  | none => simp [htc] at ht
                  | some is1 =>
                    simp only [htc, Option.some.injEq] at ht
                    subst ht
                    obtain ⟨Cs, e, hsz, hrr⟩ := hv.agg_inv
                    obtain ⟨G, q1, q2⟩ := ih ms2 cs cs' is1 Cs.toList hi htc hn.agg (by simpa using hsz) (fun j hj => by
                      have := hrr j hj
                      simpa [Array.getD_eq_getD_getElem?] using this) (by
                      refine hz.imp (fun h => h) fun ⟨h1, d', h2⟩ => ⟨h1, ?_⟩
                      cases d' with
                      | zero => simp [leak] at h2
                      | succ d' =>
                        refine ⟨d', ?_⟩
                        simp only [leak] at h2
                        split at h2
                        · simp at h2
                        · assumption)
                    subst e
                    exact ⟨G ++ F, .agg q1 g1, sub_app q2 g2⟩
              | tup ms2 =>
                cases v <;> simp only at h <;> try (simp at h; done)
                rename_i cs
                cases hi : conv res m (killAll m ids) d ms2 cs with
                | none => simp [hi] at h
                | some cs' =>
                  simp only [hi, Option.some.injEq] at h
                  subst h
                  cases htc : taken m d ms2 cs with
                  | none => simp [htc] at ht
                  | some is1 =>
                    simp only [htc, Option.some.injEq] at ht
                    subst ht
                    obtain ⟨Cs, e, hsz, hrr⟩ := hv.tup_inv
                    obtain ⟨G, q1, q2⟩ := ih ms2 cs cs' is1 Cs.toList hi htc hn.tup (by simpa using hsz) (fun j hj => by
                      have := hrr j hj
                      simpa [Array.getD_eq_getD_getElem?] using this) (by
                      refine hz.imp (fun h => h) fun ⟨h1, d', h2⟩ => ⟨h1, ?_⟩
                      cases d' with
                      | zero => simp [leak] at h2
                      | succ d' =>
                        refine ⟨d', ?_⟩
                        simp only [leak] at h2
                        split at h2
                        · simp at h2
                        · assumption)
                    subst e
                    exact ⟨G ++ F, .tup q1 g1, sub_app q2 g2⟩
              | box ms2 =>
                cases v <;> simp only at h <;> try (simp at h; done)
                rename_i id off
                cases off with
                | succ off => simp at h
                | zero =>
                  simp only at h
                  cases hm : bnth m id with
                  | dead => simp [hm] at h
                  | row v' k' l' => simp [hm] at h
                  | cells cs =>
                    simp only [hm] at h ht
                    cases hi : conv res m (killAll m ids) d ms2 cs with
                    | none => simp [hi] at h
                    | some cs' =>
                      simp only [hi, Option.some.injEq] at h
                      subst h
                      cases htc : taken m d ms2 cs with
                      | none => simp [htc] at ht
                      | some is1 =>
                        simp only [htc, Option.some.injEq] at ht
                        subst ht
                        obtain ⟨b, e, hL⟩ := hv.ptr_inv
                        rcases hL with hL | hL
                        · obtain ⟨C, t, hh, hsz, hrr⟩ := blk_cells hs hL hm
                          obtain ⟨G, q1, q2⟩ := ih ms2 cs cs' is1 C.toList hi htc (hn.cells hm) (by simpa using hsz) (fun j hj => by
                            have := hrr j hj
                            simpa [Array.getD_eq_getD_getElem?] using this) (by
                            refine hz.imp (fun h => h) fun ⟨h1, d', h2⟩ => ⟨h1, ?_⟩
                            cases d' with
                            | zero => simp [leak] at h2
                            | succ d' =>
                              refine ⟨d', ?_⟩
                              simp only [leak] at h2
                              split at h2
                              · simp at h2
                              · assumption)
                          subst e
                          exact ⟨b :: (G ++ F), .box hh q1 g1, sub_cons (by simp [bOf, hL, blkOf]) (sub_app q2 g2)⟩
                        · have := blk_dead hs hL hm
                          simp at this

end lend

end Go.Proofs.Ytnghlmogcbmlfaa
