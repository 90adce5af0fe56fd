/- The order in which the program tells places is that of the specification, for all arguments; no condition. -/
import Derived.Test.YtnghlmogcbmlfaaOrdS
import Derived.Test.YtnghlmogcbmlfaaRows
namespace Go.Proofs.Ytnghlmogcbmlfaa
set_option linter.unusedVariables false
set_option linter.unusedSimpArgs false
set_option linter.unnecessarySimpa false

open Go.ChangeShapes Go.WideShapes Go.ChangeAt Go.RowKit

set_option maxRecDepth 100000 in
theorem lifted5 (os : Os) (started : os.Started) (H : Type) (enc' : TypeId × Value → H) :
    ReturnsInHanded {} Try.checked os 5 .any (Rows.fnExactOrderSpec.pre6 enc' Try.prog Try.f5 Rows.fnExactOrderRow.domain false) (Rows.fnExactOrderSpec.post enc' Try.prog Try.f5 false true false false) := by
  refine returnsInHanded_of_change (C := Try.checked) own_knob started (by kernel_rfl) Try.func5
    (ChangeSpec.witness6 (enc := enc') (C := Try.checked) false ⟨#[], #[.slice none 0 0], []⟩ 8 (by kernel_rfl) (by kernel_rfl) (by kernel_rfl) (by kernel_rfl)) ?_
  intro W base args ds gs before hval hW _ _
  have hW2 := hW
  obtain ⟨p, q, hA, hV, _, _, _⟩ := hW2
  obtain ⟨rfl, _⟩ := trodVars_none hV
  obtain ⟨xs, hrep, hok, hlen⟩ := args_rep (P := Try.prog) (kt := ktI) (by kernel_rfl) Try.f5.params.toList args.toList ds p hA (by kernel_rfl) (fun j t v h1 h2 h3 => by
      have hv := hval j t v (by simpa using h1) (by simpa using h2)
      exact agg_of hv h3) (fun j t v h1 h2 h3 => by
      have hv := hval j t v (by simpa using h1) (by simpa using h2)
      exact cell_of hv h3)
  have hp : Try.f5.params.toList = [28] := by kernel_rfl
  rw [hp] at hlen hok
  obtain ⟨d0, rfl⟩ : ∃ d0, ds = [d0] := by
    cases ds with
    | nil => simp at hlen
    | cons d0 ds =>
      cases ds with
      | cons e ds => simp at hlen
      | nil => exact ⟨d0, rfl⟩
  have hrun : (conLawR).run xs = some (.bool true, []) := by
    cases xs with
    | nil => exact hok.elim
    | cons x0 xs =>
      obtain ⟨⟨ls0, hls0, hsh0⟩, hok0⟩ := hok
      cases xs with
      | cons y xs => exact hok0.elim
      | nil =>
        have hfl0 : flat Try.prog ktI 8 28 = some [.sl .rcd] := by kernel_rfl
        have hag0 : aggT Try.prog 28 = some false := by kernel_rfl
        rw [hfl0, Option.some.injEq] at hls0
        subst hls0
        rw [hag0] at hsh0
        have g0 := hsh0
        obtain ⟨a0x0, s0, e0x0, g0x0⟩ := leafs_sl g0
        simp only [List.cons.injEq] at e0x0
        obtain ⟨rfl, rfl⟩ := e0x0
        rfl
  refine law_calls sound5 hrun hrep (fun V W' hV hfr => ?_)
  subst hV
  exact law_post (tb := 4) laid_out hW rfl rfl rfl rfl (by kernel_rfl) (by kernel_rfl) (by
    rw [hp]
    intro t ht
    simp only [List.mem_cons, List.not_mem_nil, or_false] at ht
    subst ht
    exact ⟨by kernel_rfl, of_decide_eq_true (by kernel_rfl)⟩) hfr

theorem holdsOrder : Rows.FnExactOrderSaid :=
  OpenClaim.holds_of_wide 5 Try.f5 rfl rfl rfl rfl rfl rfl rfl ⟨rfl, rfl, rfl, rfl, rfl⟩ rfl rfl rfl rfl rfl (by kernel_rfl) Try.func5 (by kernel_rfl)
    (of_decide_eq_true (by kernel_rfl)) (by unfold Func.isWrapper; first | (rw [if_pos (by decide +kernel)]; kernel_rfl) | (rw [if_neg (by decide +kernel)]; exact ⟨rfl, rfl⟩))
    (fun os started H enc _ => lifted5 os started H enc)

#print axioms holdsOrder
end Go.Proofs.Ytnghlmogcbmlfaa
