/- What the program tells of two cuts is what the specification tells, for all arguments; no condition. -/
import Derived.Test.YtbiefokigponpaaCutsL
import Derived.Test.YtbiefokigponpaaRows
namespace Go.Proofs.Ytbiefokigponpaa
set_option linter.unusedVariables false
set_option linter.unusedSimpArgs false
set_option linter.unnecessarySimpa false

theorem named {n m : String} (h : n = m) (hm : m ≠ "runtime.NumGoroutine") : n ≠ "runtime.NumGoroutine" := h ▸ hm

theorem own_knob : ownKnob Try.prog.godebug = none := by kernel_rfl
theorem laid_out : laidOutB Try.prog = true := by kernel_rfl

def ktI : KT := [(2, .int), (3, .int), (4, .bool), (5, .u8), (9, .str), (23, .item), (25, .item), (29, .rcd), (31, .rcd), (34, .ints), (50, .fact)]

theorem tbNone_sound : TabSound Try.prog tbNone := fun _ _ h => by cases h

theorem sound15 : Sound Try.prog 15 conToI := func_sound (C := tbNone) (kt := ktI) (hws := []) tbNone_sound (f := 15) (fn := Try.f15) (af := af15) Try.func15 (named (m := "loop.example/g00678/laws.toInt64S") (by kernel_rfl) (by decide)) (by kernel_rfl) (fun xs hok => does15 xs hok)

theorem sound17 : Sound Try.prog 17 conEqI := func_sound (C := tbNone) (kt := ktI) (hws := [(6, [.any, .any, .any, .any, .any, .any, .any, .any, .any])]) tbNone_sound (f := 17) (fn := Try.f17) (af := af17) Try.func17 (named (m := "loop.example/g00678/laws.eqInt64S") (by kernel_rfl) (by decide)) (by kernel_rfl) (fun xs hok => does17 xs hok)

theorem sound18 : Sound Try.prog 18 conMarkI := func_sound (C := tbNone) (kt := ktI) (hws := []) tbNone_sound (f := 18) (fn := Try.f18) (af := af18) Try.func18 (named (m := "loop.example/g00678/laws.markInt64S") (by kernel_rfl) (by decide)) (by kernel_rfl) (fun xs hok => does18 xs hok)

theorem sound19 : Sound Try.prog 19 conHeldI := func_sound (C := tbNone) (kt := ktI) (hws := []) tbNone_sound (f := 19) (fn := Try.f19) (af := af19) Try.func19 (named (m := "loop.example/g00678/laws.heldInt64S") (by kernel_rfl) (by decide)) (by kernel_rfl) (fun xs hok => does19 xs hok)

theorem sound35 : Sound Try.prog 35 conMin := func_sound (C := tbNone) (kt := ktI) (hws := []) tbNone_sound (f := 35) (fn := Try.f35) (af := af35) Try.func35 (named (m := "loop.example/g00678/impl.CutMeet$1") (by kernel_rfl) (by decide)) (by kernel_rfl) (fun xs hok => does35 xs hok)

theorem sound37 : Sound Try.prog 37 conMax := func_sound (C := tbNone) (kt := ktI) (hws := []) tbNone_sound (f := 37) (fn := Try.f37) (af := af37) Try.func37 (named (m := "loop.example/g00678/impl.CutJoin$1") (by kernel_rfl) (by decide)) (by kernel_rfl) (fun xs hok => does37 xs hok)

theorem sound40 : Sound Try.prog 40 conMax := func_sound (C := tbNone) (kt := ktI) (hws := []) tbNone_sound (f := 40) (fn := Try.f40) (af := af40) Try.func40 (named (m := "loop.example/g00678/spec.l05Max") (by kernel_rfl) (by decide)) (by kernel_rfl) (fun xs hok => does40 xs hok)

theorem tb34_sound : TabSound Try.prog tb34 := by
  intro f c h
  unfold tb34 at h
  split at h
  · cases h; exact sound35
  · cases h; exact sound37
  · cases h

theorem sound34 : Sound Try.prog 34 conEach := func_sound (C := tb34) (kt := ktI) (hws := [(7, [.any, .any, .any, .any, .any, .any, .any, .any, .any, .any, .any, .any, .any, .any])]) tb34_sound (f := 34) (fn := Try.f34) (af := af34) Try.func34 (named (m := "loop.example/g00678/impl.each") (by kernel_rfl) (by decide)) (by kernel_rfl) (fun xs hok => does34 xs hok)

theorem tb16_sound : TabSound Try.prog tb16 := by
  intro f c h
  unfold tb16 at h
  split at h
  · cases h; exact sound34
  · cases h

theorem sound16 : Sound Try.prog 16 conMeet := func_sound (C := tb16) (kt := ktI) (hws := []) tb16_sound (f := 16) (fn := Try.f16) (af := af16) Try.func16 (named (m := "loop.example/g00678/impl.CutMeet") (by kernel_rfl) (by decide)) (by kernel_rfl) (fun xs hok => does16 xs hok)

theorem sound21 : Sound Try.prog 21 conJoin := func_sound (C := tb16) (kt := ktI) (hws := []) tb16_sound (f := 21) (fn := Try.f21) (af := af21) Try.func21 (named (m := "loop.example/g00678/impl.CutJoin") (by kernel_rfl) (by decide)) (by kernel_rfl) (fun xs hok => does21 xs hok)

theorem tb36_sound : TabSound Try.prog tb36 := by
  intro f c h
  unfold tb36 at h
  split at h
  · cases h; exact sound40
  · cases h

theorem sound36 : Sound Try.prog 36 conJoin2 := func_sound (C := tb36) (kt := ktI) (hws := [(5, [.any, .any, .any, .any, .any, .any, .any, .any, .any, .any, .pure, .any, .any])]) tb36_sound (f := 36) (fn := Try.f36) (af := af36) Try.func36 (named (m := "loop.example/g00678/spec.l15Join") (by kernel_rfl) (by decide)) (by kernel_rfl) (fun xs hok => does36 xs hok)

theorem tb20_sound : TabSound Try.prog tb20 := by
  intro f c h
  unfold tb20 at h
  split at h
  · cases h; exact sound36
  · cases h

theorem sound20 : Sound Try.prog 20 conJoin := func_sound (C := tb20) (kt := ktI) (hws := []) tb20_sound (f := 20) (fn := Try.f20) (af := af20) Try.func20 (named (m := "loop.example/g00678/spec.CutJoin") (by kernel_rfl) (by decide)) (by kernel_rfl) (fun xs hok => does20 xs hok)

theorem sound14 : Sound Try.prog 14 conMeet := func_sound (C := tbNone) (kt := ktI) (hws := []) tbNone_sound (f := 14) (fn := Try.f14) (af := af14) Try.func14 (named (m := "loop.example/g00678/spec.CutMeet") (by kernel_rfl) (by decide)) (by kernel_rfl) (fun xs hok => does14 xs hok)

theorem tb5_sound : TabSound Try.prog tb5 := by
  intro f c h
  unfold tb5 at h
  split at h
  · cases h; exact sound14
  · cases h; exact sound15
  · cases h; exact sound16
  · cases h; exact sound17
  · cases h; exact sound18
  · cases h; exact sound19
  · cases h

theorem sound5 : Sound Try.prog 5 conLawCuts := func_sound (C := tb5) (kt := ktI) (hws := []) tb5_sound (f := 5) (fn := Try.f5) (af := af5) Try.func5 (named (m := "loop.example/g00678/laws.FnExactCutMeet") (by kernel_rfl) (by decide)) (by kernel_rfl) (fun xs hok => does5 xs hok)

theorem tb6_sound : TabSound Try.prog tb6 := by
  intro f c h
  unfold tb6 at h
  split at h
  · cases h; exact sound15
  · cases h; exact sound17
  · cases h; exact sound18
  · cases h; exact sound19
  · cases h; exact sound20
  · cases h; exact sound21
  · cases h

theorem sound6 : Sound Try.prog 6 conLawCuts := func_sound (C := tb6) (kt := ktI) (hws := []) tb6_sound (f := 6) (fn := Try.f6) (af := af6) Try.func6 (named (m := "loop.example/g00678/laws.FnExactCutJoin") (by kernel_rfl) (by decide)) (by kernel_rfl) (fun xs hok => does6 xs hok)

end Go.Proofs.Ytbiefokigponpaa
