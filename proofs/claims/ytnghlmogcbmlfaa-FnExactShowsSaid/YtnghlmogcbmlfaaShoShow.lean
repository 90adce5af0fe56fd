/- Which lines the program takes to show that a clause is broken are those that the specification takes, for all arguments; no condition. -/
import Derived.Test.YtnghlmogcbmlfaaShoS
import Derived.Test.YtnghlmogcbmlfaaRows
namespace Go.Proofs.Ytnghlmogcbmlfaa
set_option linter.unusedVariables false
set_option linter.unusedSimpArgs false
set_option linter.unnecessarySimpa false

open Go.ChangeShapes Go.WideShapes Go.ChangeAt Go.RowKit

set_option maxRecDepth 100000 in
theorem lifted11 (os : Os) (started : os.Started) (H : Type) (enc' : TypeId × Value → H) :
    ReturnsInHanded {} Try.checked os 11 .any (Rows.fnExactShowsSpec.pre6 enc' Try.prog Try.f11 Rows.fnExactShowsRow.domain false) (Rows.fnExactShowsSpec.post enc' Try.prog Try.f11 false true false false) := by
  refine returnsInHanded_of_change (C := Try.checked) own_knob started (by kernel_rfl) Try.func11
    (ChangeSpec.witness6 (enc := enc') (C := Try.checked) false ⟨#[], #[.slice none 0 0, .int .i64 0, .slice none 0 0], []⟩ 8 (by kernel_rfl) (by kernel_rfl) (by kernel_rfl) (by kernel_rfl)) ?_
  intro W base args ds gs before hval hW _ _
  have hW2 := hW
  obtain ⟨p, q, hA, hV, _, _, _⟩ := hW2
  obtain ⟨rfl, _⟩ := trodVars_none hV
  obtain ⟨xs, hrep, hok, hlen⟩ := args_rep (P := Try.prog) (kt := ktI) (by kernel_rfl) Try.f11.params.toList args.toList ds p hA (by kernel_rfl) (fun j t v h1 h2 h3 => by
      have hv := hval j t v (by simpa using h1) (by simpa using h2)
      exact agg_of hv h3) (fun j t v h1 h2 h3 => by
      have hv := hval j t v (by simpa using h1) (by simpa using h2)
      exact cell_of hv h3)
  have hp : Try.f11.params.toList = [28, 2, 35] := by kernel_rfl
  rw [hp] at hlen hok
  obtain ⟨d0, d1, d2, rfl⟩ : ∃ d0 d1 d2, ds = [d0, d1, d2] := by
    cases ds with
    | nil => simp at hlen
    | cons d0 ds =>
      cases ds with
      | nil => simp at hlen
      | cons d1 ds =>
        cases ds with
        | nil => simp at hlen
        | cons d2 ds =>
          cases ds with
          | cons e ds => simp at hlen
          | nil => exact ⟨d0, d1, d2, rfl⟩
  have hrun : (conLawS).run xs = some (.bool true, []) := by
    cases xs with
    | nil => exact hok.elim
    | cons x0 xs =>
      obtain ⟨⟨ls0, hls0, hsh0⟩, hok0⟩ := hok
      cases xs with
      | nil => exact hok0.elim
      | cons x1 xs =>
        obtain ⟨⟨ls1, hls1, hsh1⟩, hok1⟩ := hok0
        cases xs with
        | nil => exact hok1.elim
        | cons x2 xs =>
          obtain ⟨⟨ls2, hls2, hsh2⟩, hok2⟩ := hok1
          cases xs with
          | cons y xs => exact hok2.elim
          | nil =>
            have hfl0 : flat Try.prog ktI 8 28 = some [.sl .rcd] := by kernel_rfl
            have hag0 : aggT Try.prog 28 = some false := by kernel_rfl
            rw [hfl0, Option.some.injEq] at hls0
            subst hls0
            rw [hag0] at hsh0
            have g0 := hsh0
            obtain ⟨a0x0, s0, e0x0, g0x0⟩ := leafs_sl g0
            simp only [List.cons.injEq] at e0x0
            obtain ⟨rfl, rfl⟩ := e0x0
            have hfl1 : flat Try.prog ktI 8 2 = some [.int .i64] := by kernel_rfl
            have hag1 : aggT Try.prog 2 = some false := by kernel_rfl
            rw [hfl1, Option.some.injEq] at hls1
            subst hls1
            rw [hag1] at hsh1
            have g0 := hsh1
            obtain ⟨a1x0, s1, e1x0, _, g1x0⟩ := leafs_int g0
            simp only [List.cons.injEq] at e1x0
            obtain ⟨rfl, rfl⟩ := e1x0
            have hfl2 : flat Try.prog ktI 8 35 = some [.sl .int] := by kernel_rfl
            have hag2 : aggT Try.prog 35 = some false := by kernel_rfl
            rw [hfl2, Option.some.injEq] at hls2
            subst hls2
            rw [hag2] at hsh2
            have g0 := hsh2
            obtain ⟨a2x0, s2, e2x0, g2x0⟩ := leafs_sl g0
            simp only [List.cons.injEq] at e2x0
            obtain ⟨rfl, rfl⟩ := e2x0
            rfl
  refine law_calls sound11 hrun hrep (fun V W' hV hfr => ?_)
  subst hV
  exact law_post (tb := 4) laid_out hW rfl rfl rfl rfl (by kernel_rfl) (by kernel_rfl) (by
    rw [hp]
    intro t ht
    simp only [List.mem_cons, List.not_mem_nil, or_false] at ht
    rcases ht with rfl | rfl | rfl <;> exact ⟨by kernel_rfl, of_decide_eq_true (by kernel_rfl)⟩) hfr

theorem holdsShows : Rows.FnExactShowsSaid :=
  OpenClaim.holds_of_wide 11 Try.f11 rfl rfl rfl rfl rfl rfl rfl ⟨rfl, rfl, rfl, rfl, rfl⟩ rfl rfl rfl rfl rfl (by kernel_rfl) Try.func11 (by kernel_rfl)
    (of_decide_eq_true (by kernel_rfl)) (by unfold Func.isWrapper; first | (rw [if_pos (by decide +kernel)]; kernel_rfl) | (rw [if_neg (by decide +kernel)]; exact ⟨rfl, rfl⟩))
    (fun os started H enc _ => lifted11 os started H enc)

#print axioms holdsShows
end Go.Proofs.Ytnghlmogcbmlfaa
