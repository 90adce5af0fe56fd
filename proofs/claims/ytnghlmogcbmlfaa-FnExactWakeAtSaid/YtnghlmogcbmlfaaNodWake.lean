/- What the program says of nodes, whether they are right and when they wake, is what the specification says, for all arguments; no condition. -/
import Derived.Test.YtnghlmogcbmlfaaNodS
import Derived.Test.YtnghlmogcbmlfaaRows
namespace Go.Proofs.Ytnghlmogcbmlfaa
set_option linter.unusedVariables false
set_option linter.unusedSimpArgs false
set_option linter.unnecessarySimpa false

open Go.ChangeShapes Go.WideShapes Go.ChangeAt Go.RowKit

set_option maxRecDepth 100000 in
theorem lifted10 (os : Os) (started : os.Started) (H : Type) (enc' : TypeId × Value → H) :
    ReturnsInHanded {} Try.checked os 10 .any (Rows.fnExactWakeAtSpec.pre6 enc' Try.prog Try.f10 Rows.fnExactWakeAtRow.domain false) (Rows.fnExactWakeAtSpec.post enc' Try.prog Try.f10 false true false false) := by
  refine returnsInHanded_of_change (C := Try.checked) own_knob started (by kernel_rfl) Try.func10
    (ChangeSpec.witness6 (enc := enc') (C := Try.checked) false ⟨#[], #[.agg #[.int .i64 0, .int .i64 0, .int .i64 0, .int .i64 0, .int .i64 0, .slice none 0 0, .slice none 0 0, .slice none 0 0, .int .i64 0, .int .i64 0, .int .i64 0, .int .i64 0, .bool false, .slice none 0 0]], []⟩ 8 (by kernel_rfl) (by kernel_rfl) (by kernel_rfl) (by kernel_rfl)) ?_
  intro W base args ds gs before hval hW _ _
  have hW2 := hW
  obtain ⟨p, q, hA, hV, _, _, _⟩ := hW2
  obtain ⟨rfl, _⟩ := trodVars_none hV
  obtain ⟨xs, hrep, hok, hlen⟩ := args_rep (P := Try.prog) (kt := ktI) (by kernel_rfl) Try.f10.params.toList args.toList ds p hA (by kernel_rfl) (fun j t v h1 h2 h3 => by
      have hv := hval j t v (by simpa using h1) (by simpa using h2)
      exact agg_of hv h3) (fun j t v h1 h2 h3 => by
      have hv := hval j t v (by simpa using h1) (by simpa using h2)
      exact cell_of hv h3)
  have hp : Try.f10.params.toList = [53] := by kernel_rfl
  rw [hp] at hlen hok
  obtain ⟨d0, rfl⟩ : ∃ d0, ds = [d0] := by
    cases ds with
    | nil => simp at hlen
    | cons d0 ds =>
      cases ds with
      | cons e ds => simp at hlen
      | nil => exact ⟨d0, rfl⟩
  have hrun : (conLawN).run xs = some (.bool true, []) := by
    cases xs with
    | nil => exact hok.elim
    | cons x0 xs =>
      obtain ⟨⟨ls0, hls0, hsh0⟩, hok0⟩ := hok
      cases xs with
      | cons y xs => exact hok0.elim
      | nil =>
        have hfl0 : flat Try.prog ktI 8 53 = some [.int .i64, .int .i64, .int .i64, .int .i64, .int .i64, .sl .fact, .sl .rumor, .sl .int, .int .i64, .int .i64, .int .i64, .int .i64, .bool, .sl .doubt] := by kernel_rfl
        have hag0 : aggT Try.prog 53 = some true := by kernel_rfl
        rw [hfl0, Option.some.injEq] at hls0
        subst hls0
        rw [hag0] at hsh0
        obtain ⟨cs0, rfl, g0⟩ := hsh0
        obtain ⟨a0x0, s0, e0x0, _, g0x0⟩ := leafs_int g0
        subst e0x0
        obtain ⟨a0x1, s0, e0x1, _, g0x1⟩ := leafs_int g0x0
        subst e0x1
        obtain ⟨a0x2, s0, e0x2, _, g0x2⟩ := leafs_int g0x1
        subst e0x2
        obtain ⟨a0x3, s0, e0x3, _, g0x3⟩ := leafs_int g0x2
        subst e0x3
        obtain ⟨a0x4, s0, e0x4, _, g0x4⟩ := leafs_int g0x3
        subst e0x4
        obtain ⟨a0x5, s0, e0x5, g0x5⟩ := leafs_sl g0x4
        subst e0x5
        obtain ⟨a0x6, s0, e0x6, g0x6⟩ := leafs_sl g0x5
        subst e0x6
        obtain ⟨a0x7, s0, e0x7, g0x7⟩ := leafs_sl g0x6
        subst e0x7
        obtain ⟨a0x8, s0, e0x8, _, g0x8⟩ := leafs_int g0x7
        subst e0x8
        obtain ⟨a0x9, s0, e0x9, _, g0x9⟩ := leafs_int g0x8
        subst e0x9
        obtain ⟨a0x10, s0, e0x10, _, g0x10⟩ := leafs_int g0x9
        subst e0x10
        obtain ⟨a0x11, s0, e0x11, _, g0x11⟩ := leafs_int g0x10
        subst e0x11
        obtain ⟨a0x12, s0, e0x12, g0x12⟩ := leafs_bool g0x11
        subst e0x12
        obtain ⟨a0x13, s0, e0x13, g0x13⟩ := leafs_sl g0x12
        subst e0x13
        obtain rfl := leafs_nil g0x13
        rfl
  refine law_calls sound10 hrun hrep (fun V W' hV hfr => ?_)
  subst hV
  exact law_post (tb := 4) laid_out hW rfl rfl rfl rfl (by kernel_rfl) (by kernel_rfl) (by
    rw [hp]
    intro t ht
    simp only [List.mem_cons, List.not_mem_nil, or_false] at ht
    subst ht
    exact ⟨by kernel_rfl, of_decide_eq_true (by kernel_rfl)⟩) hfr

theorem holdsWakeAt : Rows.FnExactWakeAtSaid :=
  OpenClaim.holds_of_wide 10 Try.f10 rfl rfl rfl rfl rfl rfl rfl ⟨rfl, rfl, rfl, rfl, rfl⟩ rfl rfl rfl rfl rfl (by kernel_rfl) Try.func10 (by kernel_rfl)
    (of_decide_eq_true (by kernel_rfl)) (by unfold Func.isWrapper; first | (rw [if_pos (by decide +kernel)]; kernel_rfl) | (rw [if_neg (by decide +kernel)]; exact ⟨rfl, rfl⟩))
    (fun os started H enc _ => lifted10 os started H enc)

#print axioms holdsWakeAt
end Go.Proofs.Ytnghlmogcbmlfaa
