/- What the program says of a plan is what the specification says, for all arguments; no condition. -/
import Derived.Test.YtbiefokigponpaaPlanL
import Derived.Test.YtbiefokigponpaaRows
namespace Go.Proofs.Ytbiefokigponpaa
set_option linter.unusedVariables false
set_option linter.unusedSimpArgs false
set_option linter.unnecessarySimpa false

theorem named {n m : String} (h : n = m) (hm : m ≠ "runtime.NumGoroutine") : n ≠ "runtime.NumGoroutine" := h ▸ hm

theorem own_knob : ownKnob Try.prog.godebug = none := by kernel_rfl
theorem laid_out : laidOutB Try.prog = true := by kernel_rfl

def ktI : KT := [(2, .int), (3, .int), (4, .bool), (5, .u8), (9, .str), (23, .item), (25, .item), (29, .rcd), (31, .rcd), (34, .ints), (50, .fact)]

theorem tbNone_sound : TabSound Try.prog tbNone := fun _ _ h => by cases h

theorem sound27 : Sound Try.prog 27 conIn := func_sound (C := tbNone) (kt := ktI) (hws := []) tbNone_sound (f := 27) (fn := Try.f27) (af := af27) Try.func27 (named (m := "loop.example/g00678/spec.l02Is") (by kernel_rfl) (by decide)) (by kernel_rfl) (fun xs hok => does27 xs hok)

theorem sound28 : Sound Try.prog 28 conIn := func_sound (C := tbNone) (kt := ktI) (hws := []) tbNone_sound (f := 28) (fn := Try.f28) (af := af28) Try.func28 (named (m := "loop.example/g00678/impl.within") (by kernel_rfl) (by decide)) (by kernel_rfl) (fun xs hok => does28 xs hok)

theorem tb29_sound : TabSound Try.prog tb29 := by
  intro f c h
  unfold tb29 at h
  split at h
  · cases h; exact sound27
  · cases h

theorem sound29 : Sound Try.prog 29 conTime := func_sound (C := tb29) (kt := ktI) (hws := []) tb29_sound (f := 29) (fn := Try.f29) (af := af29) Try.func29 (named (m := "loop.example/g00678/spec.l03Time") (by kernel_rfl) (by decide)) (by kernel_rfl) (fun xs hok => does29 xs hok)

theorem tb31_sound : TabSound Try.prog tb31 := by
  intro f c h
  unfold tb31 at h
  split at h
  · cases h; exact sound28
  · cases h

theorem sound31 : Sound Try.prog 31 conTime := func_sound (C := tb31) (kt := ktI) (hws := []) tb31_sound (f := 31) (fn := Try.f31) (af := af31) Try.func31 (named (m := "loop.example/g00678/impl.isTime") (by kernel_rfl) (by decide)) (by kernel_rfl) (fun xs hok => does31 xs hok)

theorem sound30 : Sound Try.prog 30 conNode := func_sound (C := tb29) (kt := ktI) (hws := []) tb29_sound (f := 30) (fn := Try.f30) (af := af30) Try.func30 (named (m := "loop.example/g00678/spec.l04Node") (by kernel_rfl) (by decide)) (by kernel_rfl) (fun xs hok => does30 xs hok)

theorem sound32 : Sound Try.prog 32 conNode := func_sound (C := tb31) (kt := ktI) (hws := []) tb31_sound (f := 32) (fn := Try.f32) (af := af32) Try.func32 (named (m := "loop.example/g00678/impl.isNode") (by kernel_rfl) (by decide)) (by kernel_rfl) (fun xs hok => does32 xs hok)

theorem sound9 : Sound Try.prog 9 conToItem := func_sound (C := tbNone) (kt := ktI) (hws := []) tbNone_sound (f := 9) (fn := Try.f9) (af := af9) Try.func9 (named (m := "loop.example/g00678/laws.toItem") (by kernel_rfl) (by decide)) (by kernel_rfl) (fun xs hok => does9 xs hok)

theorem sound39 : Sound Try.prog 39 conEqItem := func_sound (C := tbNone) (kt := ktI) (hws := []) tbNone_sound (f := 39) (fn := Try.f39) (af := af39) Try.func39 (named (m := "loop.example/g00678/laws.eqItem") (by kernel_rfl) (by decide)) (by kernel_rfl) (fun xs hok => does39 xs hok)

theorem tb24_sound : TabSound Try.prog tb24 := by
  intro f c h
  unfold tb24 at h
  split at h
  · cases h; exact sound9
  · cases h

theorem sound24 : Sound Try.prog 24 conToItemS := func_sound (C := tb24) (kt := ktI) (hws := []) tb24_sound (f := 24) (fn := Try.f24) (af := af24) Try.func24 (named (m := "loop.example/g00678/laws.toItemS") (by kernel_rfl) (by decide)) (by kernel_rfl) (fun xs hok => does24 xs hok)

theorem tb26_sound : TabSound Try.prog tb26 := by
  intro f c h
  unfold tb26 at h
  split at h
  · cases h; exact sound39
  · cases h

theorem sound26 : Sound Try.prog 26 conEqItemS := func_sound (C := tb26) (kt := ktI) (hws := [(6, [.any, .any, .any, .any, .any, .any, .any, .any, .pure, .any])]) tb26_sound (f := 26) (fn := Try.f26) (af := af26) Try.func26 (named (m := "loop.example/g00678/laws.eqItemS") (by kernel_rfl) (by decide)) (by kernel_rfl) (fun xs hok => does26 xs hok)

theorem sound22 : Sound Try.prog 22 conSzItemS := func_sound (C := tbNone) (kt := ktI) (hws := []) tbNone_sound (f := 22) (fn := Try.f22) (af := af22) Try.func22 (named (m := "loop.example/g00678/laws.szItemS") (by kernel_rfl) (by decide)) (by kernel_rfl) (fun xs hok => does22 xs hok)

theorem sound8 : Sound Try.prog 8 conItemOk := func_sound (C := tb29) (kt := ktI) (hws := []) tb29_sound (f := 8) (fn := Try.f8) (af := af8) Try.func8 (named (m := "loop.example/g00678/spec.ItemRight") (by kernel_rfl) (by decide)) (by kernel_rfl) (fun xs hok => does8 xs hok)

theorem sound10 : Sound Try.prog 10 conItemOk := func_sound (C := tb31) (kt := ktI) (hws := []) tb31_sound (f := 10) (fn := Try.f10) (af := af10) Try.func10 (named (m := "loop.example/g00678/impl.ItemRight") (by kernel_rfl) (by decide)) (by kernel_rfl) (fun xs hok => does10 xs hok)

theorem sound38 : Sound Try.prog 38 conAfter := func_sound (C := tbNone) (kt := ktI) (hws := []) tbNone_sound (f := 38) (fn := Try.f38) (af := af38) Try.func38 (named (m := "loop.example/g00678/impl.after") (by kernel_rfl) (by decide)) (by kernel_rfl) (fun xs hok => does38 xs hok)

theorem tb23_sound : TabSound Try.prog tb23 := by
  intro f c h
  unfold tb23 at h
  split at h
  · cases h; exact sound8
  · cases h

theorem sound23 : Sound Try.prog 23 conPlanOk := func_sound (C := tb23) (kt := ktI) (hws := []) tb23_sound (f := 23) (fn := Try.f23) (af := af23) Try.func23 (named (m := "loop.example/g00678/spec.PlanRight") (by kernel_rfl) (by decide)) (by kernel_rfl) (fun xs hok => does23 xs hok)

theorem tb25_sound : TabSound Try.prog tb25 := by
  intro f c h
  unfold tb25 at h
  split at h
  · cases h; exact sound10
  · cases h; exact sound38
  · cases h

theorem sound25 : Sound Try.prog 25 conPlanOk := func_sound (C := tb25) (kt := ktI) (hws := []) tb25_sound (f := 25) (fn := Try.f25) (af := af25) Try.func25 (named (m := "loop.example/g00678/impl.PlanRight") (by kernel_rfl) (by decide)) (by kernel_rfl) (fun xs hok => does25 xs hok)

theorem tb7_sound : TabSound Try.prog tb7 := by
  intro f c h
  unfold tb7 at h
  split at h
  · cases h; exact sound22
  · cases h; exact sound23
  · cases h; exact sound24
  · cases h; exact sound25
  · cases h; exact sound26
  · cases h

theorem sound7 : Sound Try.prog 7 conLawPlan := func_sound (C := tb7) (kt := ktI) (hws := []) tb7_sound (f := 7) (fn := Try.f7) (af := af7) Try.func7 (named (m := "loop.example/g00678/laws.FnExactPlanRight") (by kernel_rfl) (by decide)) (by kernel_rfl) (fun xs hok => does7 xs hok)

open Go.ChangeShapes Go.WideShapes Go.ChangeAt Go.RowKit

set_option maxRecDepth 100000 in
theorem lifted7 (os : Os) (started : os.Started) (H : Type) (enc' : TypeId × Value → H) :
    ReturnsInHanded {} Try.checked os 7 .any (Rows.fnExactPlanRightSpec.pre6 enc' Try.prog Try.f7 Rows.fnExactPlanRightRow.domain false) (Rows.fnExactPlanRightSpec.post enc' Try.prog Try.f7 false true false false) := by
  refine returnsInHanded_of_change (C := Try.checked) own_knob started (by kernel_rfl) Try.func7
    (ChangeSpec.witness6 (enc := enc') (C := Try.checked) false ⟨#[], #[.slice none 0 0], []⟩ 8 (by kernel_rfl) (by kernel_rfl) (by kernel_rfl) (by kernel_rfl)) ?_
  intro W base args ds gs before hval hW _ _
  have hW2 := hW
  obtain ⟨p, q, hA, hV, _, _, _⟩ := hW2
  obtain ⟨rfl, _⟩ := trodVars_none hV
  obtain ⟨xs, hrep, hok, hlen⟩ := args_rep (P := Try.prog) (kt := ktI) (by kernel_rfl) Try.f7.params.toList args.toList ds p hA (by kernel_rfl) (fun j t v h1 h2 h3 => by
      have hv := hval j t v (by simpa using h1) (by simpa using h2)
      exact agg_of hv h3) (fun j t v h1 h2 h3 => by
      have hv := hval j t v (by simpa using h1) (by simpa using h2)
      exact cell_of hv h3)
  have hp : Try.f7.params.toList = [39] := by kernel_rfl
  rw [hp] at hlen hok
  obtain ⟨d0, rfl⟩ : ∃ d0, ds = [d0] := by
    cases ds with
    | nil => simp at hlen
    | cons d0 ds =>
      cases ds with
      | cons e ds => simp at hlen
      | nil => exact ⟨d0, rfl⟩
  have hrun : (conLawPlan).run xs = some (.bool true, []) := by
    cases xs with
    | nil => exact hok.elim
    | cons x0 xs =>
      obtain ⟨⟨ls0, hls0, hsh0⟩, hok0⟩ := hok
      cases xs with
      | cons y xs => exact hok0.elim
      | nil =>
        have hfl0 : flat Try.prog ktI 8 39 = some [.sl .item] := by kernel_rfl
        have hag0 : aggT Try.prog 39 = some false := by kernel_rfl
        rw [hfl0, Option.some.injEq] at hls0
        subst hls0
        rw [hag0] at hsh0
        have g0 := hsh0
        obtain ⟨a0x0, s0, e0x0, g0x0⟩ := leafs_sl g0
        simp only [List.cons.injEq] at e0x0
        obtain ⟨rfl, rfl⟩ := e0x0
        rfl
  refine law_calls sound7 hrun hrep (fun V W' hV hfr => ?_)
  subst hV
  exact law_post (tb := 4) laid_out hW rfl rfl rfl rfl (by kernel_rfl) (by kernel_rfl) (by
    rw [hp]
    intro t ht
    simp only [List.mem_cons, List.not_mem_nil, or_false] at ht
    subst ht
    exact ⟨by kernel_rfl, of_decide_eq_true (by kernel_rfl)⟩) hfr

theorem holdsPlanRight : Rows.FnExactPlanRightSaid :=
  OpenClaim.holds_of_wide 7 Try.f7 rfl rfl rfl rfl rfl rfl rfl ⟨rfl, rfl, rfl, rfl, rfl⟩ rfl rfl rfl rfl rfl (by kernel_rfl) Try.func7 (by kernel_rfl)
    (of_decide_eq_true (by kernel_rfl)) (by unfold Func.isWrapper; first | (rw [if_pos (by decide +kernel)]; kernel_rfl) | (rw [if_neg (by decide +kernel)]; exact ⟨rfl, rfl⟩))
    (fun os started H enc _ => lifted7 os started H enc)

#print axioms holdsPlanRight
end Go.Proofs.Ytbiefokigponpaa
