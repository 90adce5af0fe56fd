/- What the program says of nodes, whether they are right and when they wake, is what the specification says, for all arguments; no condition. -/
import Derived.Test.YtnghlmogcbmlfaaNodE
import Derived.Test.YtnghlmogcbmlfaaNodL
import Derived.Test.YtnghlmogcbmlfaaRows
namespace Go.Proofs.Ytnghlmogcbmlfaa
set_option linter.unusedVariables false
set_option linter.unusedSimpArgs false
set_option linter.unnecessarySimpa false

theorem named {n m : String} (h : n = m) (hm : m ≠ "runtime.NumGoroutine") : n ≠ "runtime.NumGoroutine" := h ▸ hm

theorem own_knob : ownKnob Try.prog.godebug = none := by kernel_rfl
theorem laid_out : laidOutB Try.prog = true := by kernel_rfl

def ktI : KT := [(2, .int), (3, .int), (4, .bool), (5, .u8), (9, .str), (23, .rcd), (25, .rcd), (28, .recs), (31, .recs), (35, .ints), (53, .node), (61, .node), (98, .bools), (106, .fact), (128, .doubt), (144, .item), (146, .item), (173, .rumor), (176, .fact), (179, .rumor), (181, .doubt)]

theorem tbNone_sound : TabSound Try.prog tbNone := fun _ _ h => by cases h

theorem sound54 : Sound Try.prog 54 conToI := func_sound (C := tbNone) (kt := ktI) (hws := []) tbNone_sound (f := 54) (fn := Try.f54) (af := af54) Try.func54 (named (m := "loop.example/g00678/laws.toInt64S") (by kernel_rfl) (by decide)) (by kernel_rfl) (fun xs hok => does54 xs hok)

theorem sound23 : Sound Try.prog 23 conEqI := func_sound (C := tbNone) (kt := ktI) (hws := [(6, [.any, .any, .any, .any, .any, .any, .any, .any, .any], [])]) tbNone_sound (f := 23) (fn := Try.f23) (af := af23) Try.func23 (named (m := "loop.example/g00678/laws.eqInt64S") (by kernel_rfl) (by decide)) (by kernel_rfl) (fun xs hok => does23 xs hok)

theorem sound25 : Sound Try.prog 25 conMarkI := func_sound (C := tbNone) (kt := ktI) (hws := []) tbNone_sound (f := 25) (fn := Try.f25) (af := af25) Try.func25 (named (m := "loop.example/g00678/laws.markInt64S") (by kernel_rfl) (by decide)) (by kernel_rfl) (fun xs hok => does25 xs hok)

theorem sound26 : Sound Try.prog 26 conHeldI := func_sound (C := tbNone) (kt := ktI) (hws := []) tbNone_sound (f := 26) (fn := Try.f26) (af := af26) Try.func26 (named (m := "loop.example/g00678/laws.heldInt64S") (by kernel_rfl) (by decide)) (by kernel_rfl) (fun xs hok => does26 xs hok)

theorem sound125 : Sound Try.prog 125 conIn := func_sound (C := tbNone) (kt := ktI) (hws := []) tbNone_sound (f := 125) (fn := Try.f125) (af := af125) Try.func125 (named (m := "loop.example/g00678/spec.l02Is") (by kernel_rfl) (by decide)) (by kernel_rfl) (fun xs hok => does125 xs hok)

theorem sound130 : Sound Try.prog 130 conIn := func_sound (C := tbNone) (kt := ktI) (hws := []) tbNone_sound (f := 130) (fn := Try.f130) (af := af130) Try.func130 (named (m := "loop.example/g00678/impl.within") (by kernel_rfl) (by decide)) (by kernel_rfl) (fun xs hok => does130 xs hok)

theorem tb85_sound : TabSound Try.prog tb85 := by
  intro f c h
  unfold tb85 at h
  split at h
  · cases h; exact sound125
  · cases h

theorem sound85 : Sound Try.prog 85 conTime := func_sound (C := tb85) (kt := ktI) (hws := []) tb85_sound (f := 85) (fn := Try.f85) (af := af85) Try.func85 (named (m := "loop.example/g00678/spec.l03Time") (by kernel_rfl) (by decide)) (by kernel_rfl) (fun xs hok => does85 xs hok)

theorem tb97_sound : TabSound Try.prog tb97 := by
  intro f c h
  unfold tb97 at h
  split at h
  · cases h; exact sound130
  · cases h

theorem sound97 : Sound Try.prog 97 conTime := func_sound (C := tb97) (kt := ktI) (hws := []) tb97_sound (f := 97) (fn := Try.f97) (af := af97) Try.func97 (named (m := "loop.example/g00678/impl.isTime") (by kernel_rfl) (by decide)) (by kernel_rfl) (fun xs hok => does97 xs hok)

theorem sound75 : Sound Try.prog 75 conNode := func_sound (C := tb85) (kt := ktI) (hws := []) tb85_sound (f := 75) (fn := Try.f75) (af := af75) Try.func75 (named (m := "loop.example/g00678/spec.l04Node") (by kernel_rfl) (by decide)) (by kernel_rfl) (fun xs hok => does75 xs hok)

theorem sound77 : Sound Try.prog 77 conNode := func_sound (C := tb97) (kt := ktI) (hws := []) tb97_sound (f := 77) (fn := Try.f77) (af := af77) Try.func77 (named (m := "loop.example/g00678/impl.isNode") (by kernel_rfl) (by decide)) (by kernel_rfl) (fun xs hok => does77 xs hok)

theorem sound157 : Sound Try.prog 157 conToFact := func_sound (C := tbNone) (kt := ktI) (hws := []) tbNone_sound (f := 157) (fn := Try.f157) (af := af157) Try.func157 (named (m := "loop.example/g00678/laws.toFact") (by kernel_rfl) (by decide)) (by kernel_rfl) (fun xs hok => does157 xs hok)

theorem sound80 : Sound Try.prog 80 conEqFact := func_sound (C := tbNone) (kt := ktI) (hws := []) tbNone_sound (f := 80) (fn := Try.f80) (af := af80) Try.func80 (named (m := "loop.example/g00678/laws.eqFact") (by kernel_rfl) (by decide)) (by kernel_rfl) (fun xs hok => does80 xs hok)

theorem tb92_sound : TabSound Try.prog tb92 := by
  intro f c h
  unfold tb92 at h
  split at h
  · cases h; exact sound157
  · cases h

theorem sound92 : Sound Try.prog 92 conToFactS := func_sound (C := tb92) (kt := ktI) (hws := []) tb92_sound (f := 92) (fn := Try.f92) (af := af92) Try.func92 (named (m := "loop.example/g00678/laws.toFactS") (by kernel_rfl) (by decide)) (by kernel_rfl) (fun xs hok => does92 xs hok)

theorem tb29_sound : TabSound Try.prog tb29 := by
  intro f c h
  unfold tb29 at h
  split at h
  · cases h; exact sound80
  · cases h

theorem sound29 : Sound Try.prog 29 conEqFactS := func_sound (C := tb29) (kt := ktI) (hws := [(6, [.any, .any, .any, .any, .any, .any, .any, .any, .pure, .any], [])]) tb29_sound (f := 29) (fn := Try.f29) (af := af29) Try.func29 (named (m := "loop.example/g00678/laws.eqFactS") (by kernel_rfl) (by decide)) (by kernel_rfl) (fun xs hok => does29 xs hok)

theorem sound81 : Sound Try.prog 81 conSzFactS := func_sound (C := tbNone) (kt := ktI) (hws := []) tbNone_sound (f := 81) (fn := Try.f81) (af := af81) Try.func81 (named (m := "loop.example/g00678/laws.szFactS") (by kernel_rfl) (by decide)) (by kernel_rfl) (fun xs hok => does81 xs hok)

theorem sound158 : Sound Try.prog 158 conToRumor := func_sound (C := tb92) (kt := ktI) (hws := []) tb92_sound (f := 158) (fn := Try.f158) (af := af158) Try.func158 (named (m := "loop.example/g00678/laws.toRumor") (by kernel_rfl) (by decide)) (by kernel_rfl) (fun xs hok => does158 xs hok)

theorem sound161 : Sound Try.prog 161 conEqRumor := func_sound (C := tb29) (kt := ktI) (hws := []) tb29_sound (f := 161) (fn := Try.f161) (af := af161) Try.func161 (named (m := "loop.example/g00678/laws.eqRumor") (by kernel_rfl) (by decide)) (by kernel_rfl) (fun xs hok => does161 xs hok)

theorem tb93_sound : TabSound Try.prog tb93 := by
  intro f c h
  unfold tb93 at h
  split at h
  · cases h; exact sound158
  · cases h

theorem sound93 : Sound Try.prog 93 conToRumorS := func_sound (C := tb93) (kt := ktI) (hws := []) tb93_sound (f := 93) (fn := Try.f93) (af := af93) Try.func93 (named (m := "loop.example/g00678/laws.toRumorS") (by kernel_rfl) (by decide)) (by kernel_rfl) (fun xs hok => does93 xs hok)

theorem tb104_sound : TabSound Try.prog tb104 := by
  intro f c h
  unfold tb104 at h
  split at h
  · cases h; exact sound161
  · cases h

theorem sound104 : Sound Try.prog 104 conEqRumorS := func_sound (C := tb104) (kt := ktI) (hws := [(6, [.any, .any, .any, .any, .any, .any, .any, .any, .pure, .any], [])]) tb104_sound (f := 104) (fn := Try.f104) (af := af104) Try.func104 (named (m := "loop.example/g00678/laws.eqRumorS") (by kernel_rfl) (by decide)) (by kernel_rfl) (fun xs hok => does104 xs hok)

theorem sound82 : Sound Try.prog 82 conSzRumorS := func_sound (C := tbNone) (kt := ktI) (hws := []) tbNone_sound (f := 82) (fn := Try.f82) (af := af82) Try.func82 (named (m := "loop.example/g00678/laws.szRumorS") (by kernel_rfl) (by decide)) (by kernel_rfl) (fun xs hok => does82 xs hok)

theorem sound159 : Sound Try.prog 159 conToDoubt := func_sound (C := tbNone) (kt := ktI) (hws := []) tbNone_sound (f := 159) (fn := Try.f159) (af := af159) Try.func159 (named (m := "loop.example/g00678/laws.toDoubt") (by kernel_rfl) (by decide)) (by kernel_rfl) (fun xs hok => does159 xs hok)

theorem sound162 : Sound Try.prog 162 conEqDoubt := func_sound (C := tbNone) (kt := ktI) (hws := []) tbNone_sound (f := 162) (fn := Try.f162) (af := af162) Try.func162 (named (m := "loop.example/g00678/laws.eqDoubt") (by kernel_rfl) (by decide)) (by kernel_rfl) (fun xs hok => does162 xs hok)

theorem tb96_sound : TabSound Try.prog tb96 := by
  intro f c h
  unfold tb96 at h
  split at h
  · cases h; exact sound159
  · cases h

theorem sound96 : Sound Try.prog 96 conToDoubtS := func_sound (C := tb96) (kt := ktI) (hws := []) tb96_sound (f := 96) (fn := Try.f96) (af := af96) Try.func96 (named (m := "loop.example/g00678/laws.toDoubtS") (by kernel_rfl) (by decide)) (by kernel_rfl) (fun xs hok => does96 xs hok)

theorem tb107_sound : TabSound Try.prog tb107 := by
  intro f c h
  unfold tb107 at h
  split at h
  · cases h; exact sound162
  · cases h

theorem sound107 : Sound Try.prog 107 conEqDoubtS := func_sound (C := tb107) (kt := ktI) (hws := [(6, [.any, .any, .any, .any, .any, .any, .any, .any, .pure, .any], [])]) tb107_sound (f := 107) (fn := Try.f107) (af := af107) Try.func107 (named (m := "loop.example/g00678/laws.eqDoubtS") (by kernel_rfl) (by decide)) (by kernel_rfl) (fun xs hok => does107 xs hok)

theorem sound84 : Sound Try.prog 84 conSzDoubtS := func_sound (C := tbNone) (kt := ktI) (hws := []) tbNone_sound (f := 84) (fn := Try.f84) (af := af84) Try.func84 (named (m := "loop.example/g00678/laws.szDoubtS") (by kernel_rfl) (by decide)) (by kernel_rfl) (fun xs hok => does84 xs hok)

theorem tb139_sound : TabSound Try.prog tb139 := by
  intro f c h
  unfold tb139 at h
  split at h
  · cases h; exact sound77
  · cases h; exact sound97
  · cases h; exact sound130
  · cases h

theorem sound139 : Sound Try.prog 139 conFact := func_sound (C := tb139) (kt := ktI) (hws := []) tb139_sound (f := 139) (fn := Try.f139) (af := af139) Try.func139 (named (m := "loop.example/g00678/impl.FactRight") (by kernel_rfl) (by decide)) (by kernel_rfl) (fun xs hok => does139 xs hok)

theorem tb155_sound : TabSound Try.prog tb155 := by
  intro f c h
  unfold tb155 at h
  split at h
  · cases h; exact sound75
  · cases h; exact sound85
  · cases h; exact sound125
  · cases h

theorem sound155 : Sound Try.prog 155 conFact := func_sound (C := tb155) (kt := ktI) (hws := []) tb155_sound (f := 155) (fn := Try.f155) (af := af155) Try.func155 (named (m := "loop.example/g00678/spec.FactRight") (by kernel_rfl) (by decide)) (by kernel_rfl) (fun xs hok => does155 xs hok)

theorem sound98 : Sound Try.prog 98 conSeed := func_sound (C := tb97) (kt := ktI) (hws := []) tb97_sound (f := 98) (fn := Try.f98) (af := af98) Try.func98 (named (m := "loop.example/g00678/impl.isSeed") (by kernel_rfl) (by decide)) (by kernel_rfl) (fun xs hok => does98 xs hok)

theorem sound86 : Sound Try.prog 86 conSeed := func_sound (C := tb85) (kt := ktI) (hws := []) tb85_sound (f := 86) (fn := Try.f86) (af := af86) Try.func86 (named (m := "loop.example/g00678/spec.l02Seed") (by kernel_rfl) (by decide)) (by kernel_rfl) (fun xs hok => does86 xs hok)

theorem sound206 : Sound Try.prog 206 conIdxI := func_sound (C := tbNone) (kt := ktI) (hws := []) tbNone_sound (f := 206) (fn := Try.f206) (af := af206) Try.func206 (named (m := "slices.Index[[]int64,int64]") (by kernel_rfl) (by decide)) (by kernel_rfl) (fun xs hok => does206 xs hok)

theorem tb160_sound : TabSound Try.prog tb160 := by
  intro f c h
  unfold tb160 at h
  split at h
  · cases h; exact sound206
  · cases h

theorem sound160 : Sound Try.prog 160 conHasI := func_sound (C := tb160) (kt := ktI) (hws := []) tb160_sound (f := 160) (fn := Try.f160) (af := af160) Try.func160 (named (m := "slices.Contains[[]int64,int64]") (by kernel_rfl) (by decide)) (by kernel_rfl) (fun xs hok => does160 xs hok)

theorem sound205 : Sound Try.prog 205 conHasI := func_sound (C := tbNone) (kt := ktI) (hws := []) tbNone_sound (f := 205) (fn := Try.f205) (af := af205) Try.func205 (named (m := "loop.example/g00678/spec.l02Has") (by kernel_rfl) (by decide)) (by kernel_rfl) (fun xs hok => does205 xs hok)

theorem tb99_sound : TabSound Try.prog tb99 := by
  intro f c h
  unfold tb99 at h
  split at h
  · cases h; exact sound139
  · cases h

theorem sound99 : Sound Try.prog 99 conView := func_sound (C := tb99) (kt := ktI) (hws := [(4, [.boxed, .pure, .any, .any, .any, .any, .any, .any, .boxed, .any, .any, .any, .any, .any, .any, .any, .any, .any], [])]) tb99_sound (f := 99) (fn := Try.f99) (af := af99) Try.func99 (named (m := "loop.example/g00678/impl.ViewRight") (by kernel_rfl) (by decide)) (by kernel_rfl) (fun xs hok => does99 xs hok)

theorem tb87_sound : TabSound Try.prog tb87 := by
  intro f c h
  unfold tb87 at h
  split at h
  · cases h; exact sound155
  · cases h

theorem sound87 : Sound Try.prog 87 conView := func_sound (C := tb87) (kt := ktI) (hws := [(6, [.any, .any, .any, .any, .pure, .any, .any, .any, .any, .any, .any, .any, .any, .any, .any, .any, .any, .any, .any, .any, .any, .any, .any, .any], [])]) tb87_sound (f := 87) (fn := Try.f87) (af := af87) Try.func87 (named (m := "loop.example/g00678/spec.ViewRight") (by kernel_rfl) (by decide)) (by kernel_rfl) (fun xs hok => does87 xs hok)

theorem sound102 : Sound Try.prog 102 conAtF := func_sound (C := tbNone) (kt := ktI) (hws := []) tbNone_sound (f := 102) (fn := Try.f102) (af := af102) Try.func102 (named (m := "loop.example/g00678/impl.factAt") (by kernel_rfl) (by decide)) (by kernel_rfl) (fun xs hok => does102 xs hok)

theorem sound91 : Sound Try.prog 91 conAtF := func_sound (C := tbNone) (kt := ktI) (hws := []) tbNone_sound (f := 91) (fn := Try.f91) (af := af91) Try.func91 (named (m := "loop.example/g00678/spec.l04At") (by kernel_rfl) (by decide)) (by kernel_rfl) (fun xs hok => does91 xs hok)

theorem tb100_sound : TabSound Try.prog tb100 := by
  intro f c h
  unfold tb100 at h
  split at h
  · cases h; exact sound130
  · cases h; exact sound139
  · cases h; exact sound160
  · cases h

theorem sound100 : Sound Try.prog 100 conRum := func_sound (C := tb100) (kt := ktI) (hws := []) tb100_sound (f := 100) (fn := Try.f100) (af := af100) Try.func100 (named (m := "loop.example/g00678/impl.RumorsRight") (by kernel_rfl) (by decide)) (by kernel_rfl) (fun xs hok => does100 xs hok)

theorem tb88_sound : TabSound Try.prog tb88 := by
  intro f c h
  unfold tb88 at h
  split at h
  · cases h; exact sound125
  · cases h; exact sound155
  · cases h

theorem sound88 : Sound Try.prog 88 conRum := func_sound (C := tb88) (kt := ktI) (hws := [(11, [.any, .any, .any, .any, .any, .any, .any, .any, .any, .any, .any, .any, .any], [])]) tb88_sound (f := 88) (fn := Try.f88) (af := af88) Try.func88 (named (m := "loop.example/g00678/spec.RumorsRight") (by kernel_rfl) (by decide)) (by kernel_rfl) (fun xs hok => does88 xs hok)

theorem tb101_sound : TabSound Try.prog tb101 := by
  intro f c h
  unfold tb101 at h
  split at h
  · cases h; exact sound77
  · cases h; exact sound130
  · cases h; exact sound160
  · cases h

theorem sound101 : Sound Try.prog 101 conTurn := func_sound (C := tb101) (kt := ktI) (hws := []) tb101_sound (f := 101) (fn := Try.f101) (af := af101) Try.func101 (named (m := "loop.example/g00678/impl.TurnRight") (by kernel_rfl) (by decide)) (by kernel_rfl) (fun xs hok => does101 xs hok)

theorem tb156_sound : TabSound Try.prog tb156 := by
  intro f c h
  unfold tb156 at h
  split at h
  · cases h; exact sound75
  · cases h; exact sound205
  · cases h

theorem sound156 : Sound Try.prog 156 conTurnL := func_sound (C := tb156) (kt := ktI) (hws := [(6, [.any, .any, .any, .any, .pure, .any, .any, .any, .any, .any, .any, .any, .any, .any, .pure, .any], [])]) tb156_sound (f := 156) (fn := Try.f156) (af := af156) Try.func156 (named (m := "loop.example/g00678/spec.l07Nodes") (by kernel_rfl) (by decide)) (by kernel_rfl) (fun xs hok => does156 xs hok)

theorem tb89_sound : TabSound Try.prog tb89 := by
  intro f c h
  unfold tb89 at h
  split at h
  · cases h; exact sound125
  · cases h; exact sound156
  · cases h

theorem sound89 : Sound Try.prog 89 conTurn := func_sound (C := tb89) (kt := ktI) (hws := []) tb89_sound (f := 89) (fn := Try.f89) (af := af89) Try.func89 (named (m := "loop.example/g00678/spec.TurnRight") (by kernel_rfl) (by decide)) (by kernel_rfl) (fun xs hok => does89 xs hok)

theorem tb90_sound : TabSound Try.prog tb90 := by
  intro f c h
  unfold tb90 at h
  split at h
  · cases h; exact sound75
  · cases h; exact sound85
  · cases h

theorem sound90 : Sound Try.prog 90 conDou := func_sound (C := tb90) (kt := ktI) (hws := [(6, [.any, .any, .any, .any, .any, .pure, .any, .any, .any, .any, .any, .any, .any, .any, .any, .any, .any, .any, .any, .any, .any, .any, .pure, .any, .any, .any, .any, .any, .any, .any, .any, .pure, .any, .any, .any, .any, .any, .any, .any, .any, .any, .any, .any, .any, .any, .any, .any, .any, .any, .any, .any, .any], [])]) tb90_sound (f := 90) (fn := Try.f90) (af := af90) Try.func90 (named (m := "loop.example/g00678/spec.l08Doubts") (by kernel_rfl) (by decide)) (by kernel_rfl) (fun xs hok => does90 xs hok)

theorem tb103_sound : TabSound Try.prog tb103 := by
  intro f c h
  unfold tb103 at h
  split at h
  · cases h; exact sound77
  · cases h

theorem sound103 : Sound Try.prog 103 conOther := func_sound (C := tb103) (kt := ktI) (hws := []) tb103_sound (f := 103) (fn := Try.f103) (af := af103) Try.func103 (named (m := "(*loop.example/g00678/impl.Node).isOther") (by kernel_rfl) (by decide)) (by kernel_rfl) (fun xs hok => does103 xs hok)

theorem tb33_sound : TabSound Try.prog tb33 := by
  intro f c h
  unfold tb33 at h
  split at h
  · cases h; exact sound75
  · cases h; exact sound85
  · cases h; exact sound86
  · cases h; exact sound87
  · cases h; exact sound88
  · cases h; exact sound89
  · cases h; exact sound90
  · cases h; exact sound91
  · cases h

theorem sound33 : Sound Try.prog 33 conNodeB := func_sound (C := tb33) (kt := ktI) (hws := []) tb33_sound (f := 33) (fn := Try.f33) (af := af33) Try.func33 (named (m := "loop.example/g00678/spec.NodeRight") (by kernel_rfl) (by decide)) (by kernel_rfl) (fun xs hok => does33 xs hok)

theorem tb35_sound : TabSound Try.prog tb35 := by
  intro f c h
  unfold tb35 at h
  split at h
  · cases h; exact sound77
  · cases h; exact sound97
  · cases h; exact sound98
  · cases h; exact sound99
  · cases h; exact sound100
  · cases h; exact sound101
  · cases h; exact sound102
  · cases h; exact sound103
  · cases h

theorem sound35 : Sound Try.prog 35 conNodeB := func_sound (C := tb35) (kt := ktI) (hws := [(3, [.any, .boxed, .any, .boxed, .pure, .any, .boxed, .any, .any, .any, .any], [([0, 1, 2, 3, 4, 5, 6, 7, 8, 9, 10], [(6, 9), (7, 8)]), ([0, 1, 2, 3, 4, 5, 6, 8, 7, 9, 10], [(6, 9), (8, 7)]), ([0, 1, 2, 3, 4, 5, 7, 8, 9, 6, 10], [(7, 8), (7, 6), (8, 6), (9, 6)]), ([0, 1, 2, 3, 4, 5, 8, 7, 9, 6, 10], [(8, 7), (8, 6), (7, 6), (9, 6)])]), (11, [.any, .boxed, .any, .any, .any, .any, .boxed, .pure, .any, .any, .any, .any, .boxed, .pure, .any, .any, .any, .any, .any, .any, .any, .boxed, .any, .boxed, .any, .any, .any, .any, .any, .any, .any, .any], [([0, 1, 2, 3, 4, 5, 6, 7, 8, 9, 10, 11, 12, 13, 14, 15, 16, 17, 18, 19, 20, 21, 22, 23, 24, 25, 26, 27, 28, 29, 30, 31], [])])]) tb35_sound (f := 35) (fn := Try.f35) (af := af35) Try.func35 (named (m := "loop.example/g00678/impl.NodeRight") (by kernel_rfl) (by decide)) (by kernel_rfl) (fun xs hok => does35 xs hok)

theorem sound154 : Sound Try.prog 154 conSzI := func_sound (C := tbNone) (kt := ktI) (hws := []) tbNone_sound (f := 154) (fn := Try.f154) (af := af154) Try.func154 (named (m := "loop.example/g00678/laws.szInt64S") (by kernel_rfl) (by decide)) (by kernel_rfl) (fun xs hok => does154 xs hok)

theorem tb94_sound : TabSound Try.prog tb94 := by
  intro f c h
  unfold tb94 at h
  split at h
  · cases h; exact sound54
  · cases h

theorem sound94 : Sound Try.prog 94 conToTurn := func_sound (C := tb94) (kt := ktI) (hws := []) tb94_sound (f := 94) (fn := Try.f94) (af := af94) Try.func94 (named (m := "loop.example/g00678/laws.toTurn") (by kernel_rfl) (by decide)) (by kernel_rfl) (fun xs hok => does94 xs hok)

theorem sound95 : Sound Try.prog 95 conToProbe := func_sound (C := tbNone) (kt := ktI) (hws := []) tbNone_sound (f := 95) (fn := Try.f95) (af := af95) Try.func95 (named (m := "loop.example/g00678/laws.toProbe") (by kernel_rfl) (by decide)) (by kernel_rfl) (fun xs hok => does95 xs hok)

theorem tb105_sound : TabSound Try.prog tb105 := by
  intro f c h
  unfold tb105 at h
  split at h
  · cases h; exact sound23
  · cases h

theorem sound105 : Sound Try.prog 105 conEqTurn := func_sound (C := tb105) (kt := ktI) (hws := []) tb105_sound (f := 105) (fn := Try.f105) (af := af105) Try.func105 (named (m := "loop.example/g00678/laws.eqTurn") (by kernel_rfl) (by decide)) (by kernel_rfl) (fun xs hok => does105 xs hok)

theorem sound106 : Sound Try.prog 106 conEqProbe := func_sound (C := tbNone) (kt := ktI) (hws := []) tbNone_sound (f := 106) (fn := Try.f106) (af := af106) Try.func106 (named (m := "loop.example/g00678/laws.eqProbe") (by kernel_rfl) (by decide)) (by kernel_rfl) (fun xs hok => does106 xs hok)

theorem tb83_sound : TabSound Try.prog tb83 := by
  intro f c h
  unfold tb83 at h
  split at h
  · cases h; exact sound154
  · cases h

theorem sound83 : Sound Try.prog 83 conSzTurn := func_sound (C := tb83) (kt := ktI) (hws := []) tb83_sound (f := 83) (fn := Try.f83) (af := af83) Try.func83 (named (m := "loop.example/g00678/laws.szTurn") (by kernel_rfl) (by decide)) (by kernel_rfl) (fun xs hok => does83 xs hok)

theorem tb32_sound : TabSound Try.prog tb32 := by
  intro f c h
  unfold tb32 at h
  split at h
  · cases h; exact sound81
  · cases h; exact sound82
  · cases h; exact sound83
  · cases h; exact sound84
  · cases h

theorem sound32 : Sound Try.prog 32 conSzNode := func_sound (C := tb32) (kt := ktI) (hws := []) tb32_sound (f := 32) (fn := Try.f32) (af := af32) Try.func32 (named (m := "loop.example/g00678/laws.szNode") (by kernel_rfl) (by decide)) (by kernel_rfl) (fun xs hok => does32 xs hok)

theorem tb34_sound : TabSound Try.prog tb34 := by
  intro f c h
  unfold tb34 at h
  split at h
  · cases h; exact sound92
  · cases h; exact sound93
  · cases h; exact sound94
  · cases h; exact sound95
  · cases h; exact sound96
  · cases h

theorem sound34 : Sound Try.prog 34 conToNode := func_sound (C := tb34) (kt := ktI) (hws := []) tb34_sound (f := 34) (fn := Try.f34) (af := af34) Try.func34 (named (m := "loop.example/g00678/laws.toNode") (by kernel_rfl) (by decide)) (by kernel_rfl) (fun xs hok => does34 xs hok)

theorem tb36_sound : TabSound Try.prog tb36 := by
  intro f c h
  unfold tb36 at h
  split at h
  · cases h; exact sound29
  · cases h; exact sound104
  · cases h; exact sound105
  · cases h; exact sound106
  · cases h; exact sound107
  · cases h

theorem sound36 : Sound Try.prog 36 conEqNode := func_sound (C := tb36) (kt := ktI) (hws := []) tb36_sound (f := 36) (fn := Try.f36) (af := af36) Try.func36 (named (m := "loop.example/g00678/laws.eqNode") (by kernel_rfl) (by decide)) (by kernel_rfl) (fun xs hok => does36 xs hok)

theorem tb52_sound : TabSound Try.prog tb52 := by
  intro f c h
  unfold tb52 at h
  split at h
  · cases h; exact sound35
  · cases h

theorem sound52 : Sound Try.prog 52 conWake := func_sound (C := tb52) (kt := ktI) (hws := []) tb52_sound (f := 52) (fn := Try.f52) (af := af52) Try.func52 (named (m := "loop.example/g00678/impl.WakeAt") (by kernel_rfl) (by decide)) (by kernel_rfl) (fun xs hok => does52 xs hok)

theorem tb51_sound : TabSound Try.prog tb51 := by
  intro f c h
  unfold tb51 at h
  split at h
  · cases h; exact sound33
  · cases h

theorem sound51 : Sound Try.prog 51 conWake := func_sound (C := tb51) (kt := ktI) (hws := []) tb51_sound (f := 51) (fn := Try.f51) (af := af51) Try.func51 (named (m := "loop.example/g00678/spec.WakeAt") (by kernel_rfl) (by decide)) (by kernel_rfl) (fun xs hok => does51 xs hok)

theorem tb7_sound : TabSound Try.prog tb7 := by
  intro f c h
  unfold tb7 at h
  split at h
  · cases h; exact sound32
  · cases h; exact sound33
  · cases h; exact sound34
  · cases h; exact sound35
  · cases h; exact sound36
  · cases h

theorem sound7 : Sound Try.prog 7 conLawN := func_sound (C := tb7) (kt := ktI) (hws := [(10, [.boxed, .boxed, .any, .pure, .any], [([0, 1, 2, 3, 4], [(0, 2)]), ([1, 2, 0, 3, 4], [(2, 0)])])]) tb7_sound (f := 7) (fn := Try.f7) (af := af7) Try.func7 (named (m := "loop.example/g00678/laws.FnExactNodeRight") (by kernel_rfl) (by decide)) (by kernel_rfl) (fun xs hok => does7 xs hok)

theorem tb10_sound : TabSound Try.prog tb10 := by
  intro f c h
  unfold tb10 at h
  split at h
  · cases h; exact sound32
  · cases h; exact sound34
  · cases h; exact sound36
  · cases h; exact sound51
  · cases h; exact sound52
  · cases h

theorem sound10 : Sound Try.prog 10 conLawN := func_sound (C := tb10) (kt := ktI) (hws := [(10, [.boxed, .boxed, .any, .pure, .any], [([0, 1, 2, 3, 4], [(0, 2)]), ([1, 2, 0, 3, 4], [(2, 0)])])]) tb10_sound (f := 10) (fn := Try.f10) (af := af10) Try.func10 (named (m := "loop.example/g00678/laws.FnExactWakeAt") (by kernel_rfl) (by decide)) (by kernel_rfl) (fun xs hok => does10 xs hok)

end Go.Proofs.Ytnghlmogcbmlfaa
