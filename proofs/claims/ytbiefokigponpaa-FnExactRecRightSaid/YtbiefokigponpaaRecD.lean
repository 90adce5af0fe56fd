/- Every record: the program says of it what the specification says, for all arguments; no condition. -/
import Derived.Test.YtbiefokigponpaaRecC
import Derived.Test.YtbiefokigponpaaRows
namespace Go.Proofs.Ytbiefokigponpaa
set_option linter.unusedVariables false
set_option linter.unusedSimpArgs false
set_option linter.unnecessarySimpa false

def ktI : KT := []

theorem named {n m : String} (h : n = m) (hm : m ≠ "runtime.NumGoroutine") : n ≠ "runtime.NumGoroutine" := h ▸ hm

theorem tab0_sound : TabSound Try.prog tab0 := fun _ _ h => by cases h

theorem own_knob : ownKnob Try.prog.godebug = none := by kernel_rfl
theorem laid_out : laidOutB Try.prog = true := by kernel_rfl

theorem sound27 : Sound Try.prog 27 conIn := func_sound (C := tab0) (kt := ktI) (hws := []) tab0_sound (f := 27) (fn := Try.f27) (af := af27) Try.func27 (named (m := "loop.example/g00678/spec.l02Is") (by kernel_rfl) (by decide)) (by kernel_rfl) (fun xs _ => does27 xs)
theorem sound28 : Sound Try.prog 28 conIn := func_sound (C := tab0) (kt := ktI) (hws := []) tab0_sound (f := 28) (fn := Try.f28) (af := af28) Try.func28 (named (m := "loop.example/g00678/impl.within") (by kernel_rfl) (by decide)) (by kernel_rfl) (fun xs _ => does28 xs)
theorem sound12 : Sound Try.prog 12 conRec := func_sound (C := tab0) (kt := ktI) (hws := []) tab0_sound (f := 12) (fn := Try.f12) (af := af12) Try.func12 (named (m := "loop.example/g00678/laws.toRec") (by kernel_rfl) (by decide)) (by kernel_rfl) (fun xs _ => does12 xs)
theorem tabS_sound : TabSound Try.prog tabS := by
  intro f c h
  unfold tabS at h
  split at h
  · cases h; exact sound27
  · cases h; exact sound28
  · cases h

theorem sound29 : Sound Try.prog 29 conTime := func_sound (C := tabS) (kt := ktI) (hws := []) tabS_sound (f := 29) (fn := Try.f29) (af := af29) Try.func29 (named (m := "loop.example/g00678/spec.l03Time") (by kernel_rfl) (by decide)) (by kernel_rfl) (fun xs _ => does29 xs)
theorem sound30 : Sound Try.prog 30 conNode := func_sound (C := tabS) (kt := ktI) (hws := []) tabS_sound (f := 30) (fn := Try.f30) (af := af30) Try.func30 (named (m := "loop.example/g00678/spec.l04Node") (by kernel_rfl) (by decide)) (by kernel_rfl) (fun xs _ => does30 xs)
theorem sound31 : Sound Try.prog 31 conTime := func_sound (C := tabS) (kt := ktI) (hws := []) tabS_sound (f := 31) (fn := Try.f31) (af := af31) Try.func31 (named (m := "loop.example/g00678/impl.isTime") (by kernel_rfl) (by decide)) (by kernel_rfl) (fun xs _ => does31 xs)
theorem sound32 : Sound Try.prog 32 conNode := func_sound (C := tabS) (kt := ktI) (hws := []) tabS_sound (f := 32) (fn := Try.f32) (af := af32) Try.func32 (named (m := "loop.example/g00678/impl.isNode") (by kernel_rfl) (by decide)) (by kernel_rfl) (fun xs _ => does32 xs)
theorem tabT_sound : TabSound Try.prog tabT := by
  intro f c h
  unfold tabT at h
  split at h
  · cases h; exact sound28
  · cases h; exact sound31
  · cases h; exact sound32
  · cases h

theorem sound33 : Sound Try.prog 33 conFact := func_sound (C := tabT) (kt := ktI) (hws := []) tabT_sound (f := 33) (fn := Try.f33) (af := af33) Try.func33 (named (m := "loop.example/g00678/impl.FactRight") (by kernel_rfl) (by decide)) (by kernel_rfl) (fun xs _ => does33 xs)
theorem tabB_sound : TabSound Try.prog tabB := by
  intro f c h
  unfold tabB at h
  split at h
  · cases h; exact sound27
  · cases h; exact sound29
  · cases h; exact sound30
  · cases h

theorem tabC_sound : TabSound Try.prog tabC := by
  intro f c h
  unfold tabC at h
  split at h
  · cases h; exact sound31
  · cases h; exact sound32
  · cases h; exact sound33
  · cases h

theorem sound11 : Sound Try.prog 11 conRecOk := func_sound (C := tabB) (kt := ktI) (hws := []) tabB_sound (f := 11) (fn := Try.f11) (af := af11) Try.func11 (named (m := "loop.example/g00678/spec.RecRight") (by kernel_rfl) (by decide)) (by kernel_rfl) (fun xs _ => does11 xs)
theorem sound13 : Sound Try.prog 13 conRecOk := func_sound (C := tabC) (kt := ktI) (hws := []) tabC_sound (f := 13) (fn := Try.f13) (af := af13) Try.func13 (named (m := "loop.example/g00678/impl.RecRight") (by kernel_rfl) (by decide)) (by kernel_rfl) (fun xs _ => does13 xs)
theorem tabL_sound : TabSound Try.prog tabL := by
  intro f c h
  unfold tabL at h
  split at h
  · cases h; exact sound12
  · cases h; exact sound11
  · cases h; exact sound13
  · cases h

theorem sound4 : Sound Try.prog 4 conLaw := func_sound (C := tabL) (kt := ktI) (hws := []) tabL_sound (f := 4) (fn := Try.f4) (af := af4) Try.func4 (named (m := "loop.example/g00678/laws.FnExactRecRight") (by kernel_rfl) (by decide)) (by kernel_rfl) (fun xs _ => does4 xs)

open Go.ChangeShapes Go.WideShapes Go.ChangeAt Go.RowKit

set_option maxRecDepth 100000 in
theorem lifted4 (os : Os) (started : os.Started) (H : Type) (enc' : TypeId × Value → H) :
    ReturnsInHanded {} Try.checked os 4 .any (Rows.fnExactRecRightSpec.pre6 enc' Try.prog Try.f4 Rows.fnExactRecRightRow.domain false) (Rows.fnExactRecRightSpec.post enc' Try.prog Try.f4 false true false false) := by
  refine returnsInHanded_of_change (C := Try.checked) own_knob started (by kernel_rfl) Try.func4
    (ChangeSpec.witness6 (enc := enc') (C := Try.checked) false ⟨#[], #[.agg #[.int .i64 0, .int .i64 0, .int .i64 0, .int .i64 0, .int .i64 0, .int .i64 0]], []⟩ 8 (by kernel_rfl) (by kernel_rfl) (by kernel_rfl) (by kernel_rfl)) ?_
  intro W base args ds gs before hval hW _ _
  have hW2 := hW
  obtain ⟨p, q, hA, hV, _, _, _⟩ := hW2
  obtain ⟨rfl, _⟩ := trodVars_none hV
  obtain ⟨xs, hrep, hok, hlen⟩ := args_rep (P := Try.prog) (kt := ktI) (by kernel_rfl) Try.f4.params.toList args.toList ds p hA (by kernel_rfl) (fun j t v h1 h2 h3 => by
      have hv := hval j t v (by simpa using h1) (by simpa using h2)
      exact agg_of hv h3) (fun j t v h1 h2 h3 => by
      have hv := hval j t v (by simpa using h1) (by simpa using h2)
      exact cell_of hv h3)
  have hp : Try.f4.params.toList = [29] := by kernel_rfl
  rw [hp] at hlen hok
  obtain ⟨d0, rfl⟩ : ∃ d0, ds = [d0] := by
    cases ds with
    | nil => simp at hlen
    | cons d0 ds =>
      cases ds with
      | cons e ds => simp at hlen
      | nil => exact ⟨d0, rfl⟩
  have hrun : (conLaw).run xs = some (.bool true, []) := by
    cases xs with
    | nil => exact hok.elim
    | cons x0 xs =>
      obtain ⟨⟨ls0, hls0, hsh0⟩, hok0⟩ := hok
      cases xs with
      | cons y xs => exact hok0.elim
      | nil =>
        have hfl0 : flat Try.prog ktI 8 29 = some [.int .i64, .int .i64, .int .i64, .int .i64, .int .i64, .int .i64] := by kernel_rfl
        have hag0 : aggT Try.prog 29 = some true := by kernel_rfl
        rw [hfl0, Option.some.injEq] at hls0
        subst hls0
        rw [hag0] at hsh0
        obtain ⟨cs0, rfl, g0⟩ := hsh0
        obtain ⟨a0x0, s0, e0x0, _, g0x0⟩ := leafs_int g0
        subst e0x0
        obtain ⟨a0x1, s0, e0x1, _, g0x1⟩ := leafs_int g0x0
        subst e0x1
        obtain ⟨a0x2, s0, e0x2, _, g0x2⟩ := leafs_int g0x1
        subst e0x2
        obtain ⟨a0x3, s0, e0x3, _, g0x3⟩ := leafs_int g0x2
        subst e0x3
        obtain ⟨a0x4, s0, e0x4, _, g0x4⟩ := leafs_int g0x3
        subst e0x4
        obtain ⟨a0x5, s0, e0x5, _, g0x5⟩ := leafs_int g0x4
        subst e0x5
        obtain rfl := leafs_nil g0x5
        rfl
  refine law_calls sound4 hrun hrep (fun V W' hV hfr => ?_)
  subst hV
  exact law_post (tb := 4) laid_out hW rfl rfl rfl rfl (by kernel_rfl) (by kernel_rfl) (by
    rw [hp]
    intro t ht
    simp only [List.mem_cons, List.not_mem_nil, or_false] at ht
    subst ht
    exact ⟨by kernel_rfl, of_decide_eq_true (by kernel_rfl)⟩) hfr

theorem holdsRecRight : Rows.FnExactRecRightSaid :=
  OpenClaim.holds_of_wide 4 Try.f4 rfl rfl rfl rfl rfl rfl rfl ⟨rfl, rfl, rfl, rfl, rfl⟩ rfl rfl rfl rfl rfl (by kernel_rfl) Try.func4 (by kernel_rfl)
    (of_decide_eq_true (by kernel_rfl)) (by unfold Func.isWrapper; first | (rw [if_pos (by decide +kernel)]; kernel_rfl) | (rw [if_neg (by decide +kernel)]; exact ⟨rfl, rfl⟩))
    (fun os started H enc _ => lifted4 os started H enc)

#print axioms holdsRecRight
end Go.Proofs.Ytbiefokigponpaa
