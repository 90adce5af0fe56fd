/- Item: the row. -/
import Derived.Test.YtbiefokigponpaaItemC
import Derived.Test.YtbiefokigponpaaRows
namespace Go.Proofs.Ytbiefokigponpaa
set_option linter.unusedVariables false
set_option linter.unusedSimpArgs false
set_option linter.unnecessarySimpa false

def ktI : KT := []

theorem soundIn {f : FuncId} {fn : Func} {af : AF} (hf : Try.prog.funcs[f]? = some fn) (hn : fn.name ≠ "runtime.NumGoroutine") (hr : resF Try.prog ktI [] fn = some af) (hd : ∀ xs, Does tab0 af conIn xs) : Sound Try.prog f conIn :=
  func_sound (C := tab0) (fun _ _ h => by cases h) hf hn hr (fun xs _ => hd xs)

theorem named {n m : String} (h : n = m) (hm : m ≠ "runtime.NumGoroutine") : n ≠ "runtime.NumGoroutine" := h ▸ hm

theorem sound27 : Sound Try.prog 27 conIn := soundIn (f := 27) (fn := Try.f27) (af := af27) Try.func27 (named (m := "loop.example/g00678/spec.l02Is") (by kernel_rfl) (by decide)) (by kernel_rfl) does27
theorem sound28 : Sound Try.prog 28 conIn := soundIn (f := 28) (fn := Try.f28) (af := af28) Try.func28 (named (m := "loop.example/g00678/impl.within") (by kernel_rfl) (by decide)) (by kernel_rfl) does28
theorem sound9 : Sound Try.prog 9 conItem := func_sound (C := tab0) (kt := ktI) (hws := []) (fun _ _ h => by cases h) (f := 9) (fn := Try.f9) (af := af9) Try.func9 (named (m := "loop.example/g00678/laws.toItem") (by kernel_rfl) (by decide)) (by kernel_rfl) (fun xs _ => does9 xs)

theorem tabA_sound : TabSound Try.prog tabA := by
  intro f c h
  unfold tabA at h
  split at h
  · cases h; exact sound27
  · cases h; exact sound28
  · cases h

theorem sound8 : Sound Try.prog 8 conItemOk := func_sound (C := tabA) (kt := ktI) (hws := []) tabA_sound (f := 8) (fn := Try.f8) (af := af8) Try.func8 (named (m := "loop.example/g00678/spec.ItemRight") (by kernel_rfl) (by decide)) (by kernel_rfl) (fun xs _ => does8 xs)
theorem sound10 : Sound Try.prog 10 conItemOk := func_sound (C := tabA) (kt := ktI) (hws := []) tabA_sound (f := 10) (fn := Try.f10) (af := af10) Try.func10 (named (m := "loop.example/g00678/impl.ItemRight") (by kernel_rfl) (by decide)) (by kernel_rfl) (fun xs _ => does10 xs)

theorem tabI_sound : TabSound Try.prog tabI := by
  intro f c h
  unfold tabI at h
  split at h
  · cases h; exact sound9
  · cases h; exact sound8
  · cases h; exact sound10
  · cases h

theorem sound3 : Sound Try.prog 3 conLawItem := func_sound (C := tabI) (kt := ktI) (hws := []) tabI_sound (f := 3) (fn := Try.f3) (af := af3) Try.func3 (named (m := "loop.example/g00678/laws.FnExactItemRight") (by kernel_rfl) (by decide)) (by kernel_rfl) (fun xs _ => does3 xs)

theorem own_knob : ownKnob Try.prog.godebug = none := by kernel_rfl
theorem laid_out : laidOutB Try.prog = true := by kernel_rfl

open Go.ChangeShapes Go.WideShapes Go.ChangeAt Go.RowKit

set_option maxRecDepth 100000 in
theorem liftedItem (os : Os) (started : os.Started) (H : Type) (enc' : TypeId × Value → H) :
    ReturnsInHanded {} Try.checked os 3 .any (Rows.fnExactItemRightSpec.pre6 enc' Try.prog Try.f3 Rows.fnExactItemRightRow.domain false) (Rows.fnExactItemRightSpec.post enc' Try.prog Try.f3 false true false false) := by
  refine returnsInHanded_of_change (C := Try.checked) own_knob started (by kernel_rfl) Try.func3
    (ChangeSpec.witness6 (enc := enc') (C := Try.checked) false ⟨#[], #[.agg #[.int .i64 0, .int .i64 0, .int .i64 0, .int .i64 0]], []⟩ 8 (by kernel_rfl) (by kernel_rfl) (by kernel_rfl) (by kernel_rfl)) ?_
  intro W base args ds gs before hval hW _ _
  have hW2 := hW
  obtain ⟨p, q, hA, hV, _, _, _⟩ := hW2
  obtain ⟨rfl, _⟩ := trodVars_none hV
  obtain ⟨xs, hrep, hok, hlen⟩ := args_rep (P := Try.prog) (kt := ktI) (by kernel_rfl) Try.f3.params.toList args.toList ds p hA (by kernel_rfl) (fun j t v h1 h2 h3 => by
      have hv := hval j t v (by simpa using h1) (by simpa using h2)
      exact agg_of hv h3) (fun j t v h1 h2 h3 => by
      have hv := hval j t v (by simpa using h1) (by simpa using h2)
      exact cell_of hv h3)
  have hds : ∃ d, ds = [d] := by
    have : Try.f3.params.toList.length = 1 := by kernel_rfl
    rw [this] at hlen
    exact List.length_eq_one_iff.1 hlen
  obtain ⟨d, rfl⟩ := hds
  have hrun : conLawItem.run xs = some (.bool true, []) := by
    have hp : Try.f3.params.toList = [23] := by kernel_rfl
    rw [hp] at hok
    cases xs with
    | nil => exact hok.elim
    | cons x xs =>
      cases xs with
      | cons y xs => exact hok.2.elim
      | nil =>
        obtain ⟨ls, hls, hsh⟩ := hok.1
        have hfl : flat Try.prog ktI 8 23 = some [.int .i64, .int .i64, .int .i64, .int .i64] := by kernel_rfl
        have hag : aggT Try.prog 23 = some true := by kernel_rfl
        rw [hfl, Option.some.injEq] at hls
        subst hls
        rw [hag] at hsh
        obtain ⟨cs, rfl, h⟩ := hsh
        obtain ⟨a, s, rfl, _, h2⟩ := leafs_int h
        obtain ⟨b, s, rfl, _, h3⟩ := leafs_int h2
        obtain ⟨c, s, rfl, _, h4⟩ := leafs_int h3
        obtain ⟨e, s, rfl, _, h5⟩ := leafs_int h4
        obtain rfl := leafs_nil h5
        rfl
  refine law_calls sound3 hrun hrep (fun V W' hV hfr => ?_)
  subst hV
  exact law_post (tb := 4) laid_out hW rfl rfl rfl rfl (by kernel_rfl) (by kernel_rfl) (by
    have hp : Try.f3.params.toList = [23] := by kernel_rfl
    rw [hp]
    intro t ht
    simp only [List.mem_singleton] at ht
    subst ht
    exact ⟨by kernel_rfl, of_decide_eq_true (by kernel_rfl)⟩) hfr

theorem holdsItemRight : Rows.FnExactItemRightSaid :=
  OpenClaim.holds_of_wide 3 Try.f3 rfl rfl rfl rfl rfl rfl rfl ⟨rfl, rfl, rfl, rfl, rfl⟩ rfl rfl rfl rfl rfl (by kernel_rfl) Try.func3 (by kernel_rfl)
    (of_decide_eq_true (by kernel_rfl)) (by unfold Func.isWrapper; first | (rw [if_pos (by decide +kernel)]; kernel_rfl) | (rw [if_neg (by decide +kernel)]; exact ⟨rfl, rfl⟩))
    (fun os started H enc _ => liftedItem os started H enc)

#print axioms holdsItemRight
end Go.Proofs.Ytbiefokigponpaa
