/- The order in which the program tells places is that of the specification, for all arguments; no condition. -/
import Derived.Test.YtnghlmogcbmlfaaOrdL
import Derived.Test.YtnghlmogcbmlfaaRows
namespace Go.Proofs.Ytnghlmogcbmlfaa
set_option linter.unusedVariables false
set_option linter.unusedSimpArgs false
set_option linter.unnecessarySimpa false

theorem named {n m : String} (h : n = m) (hm : m ≠ "runtime.NumGoroutine") : n ≠ "runtime.NumGoroutine" := h ▸ hm

theorem own_knob : ownKnob Try.prog.godebug = none := by kernel_rfl
theorem laid_out : laidOutB Try.prog = true := by kernel_rfl

def ktI : KT := [(2, .int), (3, .int), (4, .bool), (5, .u8), (9, .str), (23, .rcd), (25, .rcd), (28, .recs), (31, .recs), (35, .ints), (53, .node), (61, .node), (98, .bools), (106, .fact), (128, .doubt), (144, .item), (146, .item), (173, .rumor), (176, .fact), (179, .rumor), (181, .doubt)]

theorem tbNone_sound : TabSound Try.prog tbNone := fun _ _ h => by cases h

theorem sound54 : Sound Try.prog 54 conToI := func_sound (C := tbNone) (kt := ktI) (hws := []) tbNone_sound (f := 54) (fn := Try.f54) (af := af54) Try.func54 (named (m := "loop.example/g00678/laws.toInt64S") (by kernel_rfl) (by decide)) (by kernel_rfl) (fun xs hok => does54 xs hok)

theorem sound23 : Sound Try.prog 23 conEqI := func_sound (C := tbNone) (kt := ktI) (hws := [(6, [.any, .any, .any, .any, .any, .any, .any, .any, .any], [])]) tbNone_sound (f := 23) (fn := Try.f23) (af := af23) Try.func23 (named (m := "loop.example/g00678/laws.eqInt64S") (by kernel_rfl) (by decide)) (by kernel_rfl) (fun xs hok => does23 xs hok)

theorem sound25 : Sound Try.prog 25 conMarkI := func_sound (C := tbNone) (kt := ktI) (hws := []) tbNone_sound (f := 25) (fn := Try.f25) (af := af25) Try.func25 (named (m := "loop.example/g00678/laws.markInt64S") (by kernel_rfl) (by decide)) (by kernel_rfl) (fun xs hok => does25 xs hok)

theorem sound26 : Sound Try.prog 26 conHeldI := func_sound (C := tbNone) (kt := ktI) (hws := []) tbNone_sound (f := 26) (fn := Try.f26) (af := af26) Try.func26 (named (m := "loop.example/g00678/laws.heldInt64S") (by kernel_rfl) (by decide)) (by kernel_rfl) (fun xs hok => does26 xs hok)

theorem sound125 : Sound Try.prog 125 conIn := func_sound (C := tbNone) (kt := ktI) (hws := []) tbNone_sound (f := 125) (fn := Try.f125) (af := af125) Try.func125 (named (m := "loop.example/g00678/spec.l02Is") (by kernel_rfl) (by decide)) (by kernel_rfl) (fun xs hok => does125 xs hok)

theorem sound130 : Sound Try.prog 130 conIn := func_sound (C := tbNone) (kt := ktI) (hws := []) tbNone_sound (f := 130) (fn := Try.f130) (af := af130) Try.func130 (named (m := "loop.example/g00678/impl.within") (by kernel_rfl) (by decide)) (by kernel_rfl) (fun xs hok => does130 xs hok)

theorem tb85_sound : TabSound Try.prog tb85 := by
  intro f c h
  unfold tb85 at h
  split at h
  · cases h; exact sound125
  · cases h

theorem sound85 : Sound Try.prog 85 conTime := func_sound (C := tb85) (kt := ktI) (hws := []) tb85_sound (f := 85) (fn := Try.f85) (af := af85) Try.func85 (named (m := "loop.example/g00678/spec.l03Time") (by kernel_rfl) (by decide)) (by kernel_rfl) (fun xs hok => does85 xs hok)

theorem tb97_sound : TabSound Try.prog tb97 := by
  intro f c h
  unfold tb97 at h
  split at h
  · cases h; exact sound130
  · cases h

theorem sound97 : Sound Try.prog 97 conTime := func_sound (C := tb97) (kt := ktI) (hws := []) tb97_sound (f := 97) (fn := Try.f97) (af := af97) Try.func97 (named (m := "loop.example/g00678/impl.isTime") (by kernel_rfl) (by decide)) (by kernel_rfl) (fun xs hok => does97 xs hok)

theorem sound75 : Sound Try.prog 75 conNode := func_sound (C := tb85) (kt := ktI) (hws := []) tb85_sound (f := 75) (fn := Try.f75) (af := af75) Try.func75 (named (m := "loop.example/g00678/spec.l04Node") (by kernel_rfl) (by decide)) (by kernel_rfl) (fun xs hok => does75 xs hok)

theorem sound77 : Sound Try.prog 77 conNode := func_sound (C := tb97) (kt := ktI) (hws := []) tb97_sound (f := 77) (fn := Try.f77) (af := af77) Try.func77 (named (m := "loop.example/g00678/impl.isNode") (by kernel_rfl) (by decide)) (by kernel_rfl) (fun xs hok => does77 xs hok)

theorem sound14 : Sound Try.prog 14 conToRec := func_sound (C := tbNone) (kt := ktI) (hws := []) tbNone_sound (f := 14) (fn := Try.f14) (af := af14) Try.func14 (named (m := "loop.example/g00678/laws.toRec") (by kernel_rfl) (by decide)) (by kernel_rfl) (fun xs hok => does14 xs hok)

theorem sound69 : Sound Try.prog 69 conEqRec := func_sound (C := tbNone) (kt := ktI) (hws := []) tbNone_sound (f := 69) (fn := Try.f69) (af := af69) Try.func69 (named (m := "loop.example/g00678/laws.eqRec") (by kernel_rfl) (by decide)) (by kernel_rfl) (fun xs hok => does69 xs hok)

theorem tb18_sound : TabSound Try.prog tb18 := by
  intro f c h
  unfold tb18 at h
  split at h
  · cases h; exact sound14
  · cases h

theorem sound18 : Sound Try.prog 18 conToRecS := func_sound (C := tb18) (kt := ktI) (hws := []) tb18_sound (f := 18) (fn := Try.f18) (af := af18) Try.func18 (named (m := "loop.example/g00678/laws.toRecS") (by kernel_rfl) (by decide)) (by kernel_rfl) (fun xs hok => does18 xs hok)

theorem tb20_sound : TabSound Try.prog tb20 := by
  intro f c h
  unfold tb20 at h
  split at h
  · cases h; exact sound69
  · cases h

theorem sound20 : Sound Try.prog 20 conEqRecS := func_sound (C := tb20) (kt := ktI) (hws := [(6, [.any, .any, .any, .any, .any, .any, .any, .any, .pure, .any], [])]) tb20_sound (f := 20) (fn := Try.f20) (af := af20) Try.func20 (named (m := "loop.example/g00678/laws.eqRecS") (by kernel_rfl) (by decide)) (by kernel_rfl) (fun xs hok => does20 xs hok)

theorem sound16 : Sound Try.prog 16 conSzRecS := func_sound (C := tbNone) (kt := ktI) (hws := []) tbNone_sound (f := 16) (fn := Try.f16) (af := af16) Try.func16 (named (m := "loop.example/g00678/laws.szRecS") (by kernel_rfl) (by decide)) (by kernel_rfl) (fun xs hok => does16 xs hok)

theorem sound24 : Sound Try.prog 24 conMarkRecS := func_sound (C := tbNone) (kt := ktI) (hws := []) tbNone_sound (f := 24) (fn := Try.f24) (af := af24) Try.func24 (named (m := "loop.example/g00678/laws.markRecS") (by kernel_rfl) (by decide)) (by kernel_rfl) (fun xs hok => does24 xs hok)

theorem tb139_sound : TabSound Try.prog tb139 := by
  intro f c h
  unfold tb139 at h
  split at h
  · cases h; exact sound77
  · cases h; exact sound97
  · cases h; exact sound130
  · cases h

theorem sound139 : Sound Try.prog 139 conFact := func_sound (C := tb139) (kt := ktI) (hws := []) tb139_sound (f := 139) (fn := Try.f139) (af := af139) Try.func139 (named (m := "loop.example/g00678/impl.FactRight") (by kernel_rfl) (by decide)) (by kernel_rfl) (fun xs hok => does139 xs hok)

theorem tb155_sound : TabSound Try.prog tb155 := by
  intro f c h
  unfold tb155 at h
  split at h
  · cases h; exact sound75
  · cases h; exact sound85
  · cases h; exact sound125
  · cases h

theorem sound155 : Sound Try.prog 155 conFact := func_sound (C := tb155) (kt := ktI) (hws := []) tb155_sound (f := 155) (fn := Try.f155) (af := af155) Try.func155 (named (m := "loop.example/g00678/spec.FactRight") (by kernel_rfl) (by decide)) (by kernel_rfl) (fun xs hok => does155 xs hok)

theorem sound61 : Sound Try.prog 61 conRecOk := func_sound (C := tb155) (kt := ktI) (hws := []) tb155_sound (f := 61) (fn := Try.f61) (af := af61) Try.func61 (named (m := "loop.example/g00678/spec.RecRight") (by kernel_rfl) (by decide)) (by kernel_rfl) (fun xs hok => does61 xs hok)

theorem tb63_sound : TabSound Try.prog tb63 := by
  intro f c h
  unfold tb63 at h
  split at h
  · cases h; exact sound77
  · cases h; exact sound97
  · cases h; exact sound139
  · cases h

theorem sound63 : Sound Try.prog 63 conRecOk := func_sound (C := tb63) (kt := ktI) (hws := []) tb63_sound (f := 63) (fn := Try.f63) (af := af63) Try.func63 (named (m := "loop.example/g00678/impl.RecRight") (by kernel_rfl) (by decide)) (by kernel_rfl) (fun xs hok => does63 xs hok)

theorem sound215 : Sound Try.prog 215 conIsLife := func_sound (C := tbNone) (kt := ktI) (hws := []) tbNone_sound (f := 215) (fn := Try.f215) (af := af215) Try.func215 (named (m := "loop.example/g00678/impl.isLife") (by kernel_rfl) (by decide)) (by kernel_rfl) (fun xs hok => does215 xs hok)

theorem tb143_sound : TabSound Try.prog tb143 := by
  intro f c h
  unfold tb143 at h
  split at h
  · cases h; exact sound63
  · cases h

theorem sound143 : Sound Try.prog 143 conCl143 := func_sound (C := tb143) (kt := ktI) (hws := []) tb143_sound (f := 143) (fn := Try.f143) (af := af143) Try.func143 (named (m := "loop.example/g00678/impl.areRecs$1") (by kernel_rfl) (by decide)) (by kernel_rfl) (fun xs hok => does143 xs hok)

theorem tb214_sound : TabSound Try.prog tb214 := by
  intro f c h
  unfold tb214 at h
  split at h
  · cases h; exact sound215
  · cases h

theorem sound214 : Sound Try.prog 214 conCl214 := func_sound (C := tb214) (kt := ktI) (hws := []) tb214_sound (f := 214) (fn := Try.f214) (af := af214) Try.func214 (named (m := "loop.example/g00678/impl.lifeOf$1") (by kernel_rfl) (by decide)) (by kernel_rfl) (fun xs hok => does214 xs hok)

theorem sound147 : Sound Try.prog 147 conCl147 := func_sound (C := tbNone) (kt := ktI) (hws := []) tbNone_sound (f := 147) (fn := Try.f147) (af := af147) Try.func147 (named (m := "loop.example/g00678/impl.directly$1") (by kernel_rfl) (by decide)) (by kernel_rfl) (fun xs hok => does147 xs hok)

theorem sound201 : Sound Try.prog 201 conCl201 := func_sound (C := tbNone) (kt := ktI) (hws := []) tbNone_sound (f := 201) (fn := Try.f201) (af := af201) Try.func201 (named (m := "loop.example/g00678/impl.isSentFor$1") (by kernel_rfl) (by decide)) (by kernel_rfl) (fun xs hok => does201 xs hok)

theorem tbCl_sound : TabSound Try.prog tbCl := by
  intro f c h
  unfold tbCl at h
  split at h
  · cases h; exact sound143
  · cases h; exact sound147
  · cases h; exact sound201
  · cases h; exact sound214
  · cases h

theorem sound194 : Sound Try.prog 194 conIndexR := func_sound (C := tbCl) (kt := ktI) (hws := []) tbCl_sound (f := 194) (fn := Try.f194) (af := af194) Try.func194 (named (m := "slices.IndexFunc[[]loop.example/g00678/impl.Rec,loop.example/g00678/impl.Rec]") (by kernel_rfl) (by decide)) (by kernel_rfl) (fun xs hok => does194 xs hok)

theorem tb142_sound : TabSound Try.prog tb142 := by
  intro f c h
  unfold tb142 at h
  split at h
  · cases h; exact sound194
  · cases h

theorem sound142 : Sound Try.prog 142 conContainsR := func_sound (C := tb142) (kt := ktI) (hws := []) tb142_sound (f := 142) (fn := Try.f142) (af := af142) Try.func142 (named (m := "slices.ContainsFunc[[]loop.example/g00678/impl.Rec,loop.example/g00678/impl.Rec]") (by kernel_rfl) (by decide)) (by kernel_rfl) (fun xs hok => does142 xs hok)

theorem sound146 : Sound Try.prog 146 conLastOf := func_sound (C := tbCl) (kt := ktI) (hws := []) tbCl_sound (f := 146) (fn := Try.f146) (af := af146) Try.func146 (named (m := "loop.example/g00678/impl.lastOf") (by kernel_rfl) (by decide)) (by kernel_rfl) (fun xs hok => does146 xs hok)

theorem tb67_sound : TabSound Try.prog tb67 := by
  intro f c h
  unfold tb67 at h
  split at h
  · cases h; exact sound142
  · cases h

theorem sound67 : Sound Try.prog 67 conRecsOk := func_sound (C := tb67) (kt := ktI) (hws := []) tb67_sound (f := 67) (fn := Try.f67) (af := af67) Try.func67 (named (m := "loop.example/g00678/impl.areRecs") (by kernel_rfl) (by decide)) (by kernel_rfl) (fun xs hok => does67 xs hok)

theorem tb70_sound : TabSound Try.prog tb70 := by
  intro f c h
  unfold tb70 at h
  split at h
  · cases h; exact sound61
  · cases h

theorem sound70 : Sound Try.prog 70 conRecsOk := func_sound (C := tb70) (kt := ktI) (hws := []) tb70_sound (f := 70) (fn := Try.f70) (af := af70) Try.func70 (named (m := "loop.example/g00678/spec.l12Recs") (by kernel_rfl) (by decide)) (by kernel_rfl) (fun xs hok => does70 xs hok)

theorem sound148 : Sound Try.prog 148 conIsSentFor := func_sound (C := tbNone) (kt := ktI) (hws := []) tbNone_sound (f := 148) (fn := Try.f148) (af := af148) Try.func148 (named (m := "loop.example/g00678/impl.isSentFor") (by kernel_rfl) (by decide)) (by kernel_rfl) (fun xs hok => does148 xs hok)

theorem tb73_sound : TabSound Try.prog tb73 := by
  intro f c h
  unfold tb73 at h
  split at h
  · cases h; exact sound146
  · cases h; exact sound148
  · cases h

theorem sound73 : Sound Try.prog 73 conDir := func_sound (C := tb73) (kt := ktI) (hws := []) tb73_sound (f := 73) (fn := Try.f73) (af := af73) Try.func73 (named (m := "loop.example/g00678/impl.directly") (by kernel_rfl) (by decide)) (by kernel_rfl) (fun xs hok => does73 xs hok)

theorem sound144 : Sound Try.prog 144 conDir := func_sound (C := tbNone) (kt := ktI) (hws := [(5, [.any, .any, .any, .any, .any, .any, .any, .any, .any, .any, .any], []), (10, [.any, .any, .any, .any, .any, .any, .any, .any, .any, .any, .any, .any, .any, .any, .any, .any, .any, .any, .any, .any, .any, .any, .any, .any, .any, .any, .any, .any, .any, .any, .any, .any, .any, .any, .any, .any, .any, .any, .any, .any, .any, .any, .any, .any, .any], [])]) tbNone_sound (f := 144) (fn := Try.f144) (af := af144) Try.func144 (named (m := "loop.example/g00678/spec.l15Direct") (by kernel_rfl) (by decide)) (by kernel_rfl) (fun xs hok => does144 xs hok)

theorem tb71_sound : TabSound Try.prog tb71 := by
  intro f c h
  unfold tb71 at h
  split at h
  · cases h; exact sound144
  · cases h

theorem sound71 : Sound Try.prog 71 conReady := func_sound (C := tb71) (kt := ktI) (hws := []) tb71_sound (f := 71) (fn := Try.f71) (af := af71) Try.func71 (named (m := "loop.example/g00678/spec.l15Ready") (by kernel_rfl) (by decide)) (by kernel_rfl) (fun xs hok => does71 xs hok)

theorem sound74 : Sound Try.prog 74 conCl74 := func_sound (C := tbNone) (kt := ktI) (hws := []) tbNone_sound (f := 74) (fn := Try.f74) (af := af74) Try.func74 (named (m := "loop.example/g00678/impl.Order$1") (by kernel_rfl) (by decide)) (by kernel_rfl) (fun xs hok => does74 xs hok)

theorem tb145_sound : TabSound Try.prog tb145 := by
  intro f c h
  unfold tb145 at h
  split at h
  · cases h; exact sound74
  · cases h

theorem sound145 : Sound Try.prog 145 conIdxT := func_sound (C := tb145) (kt := ktI) (hws := []) tb145_sound (f := 145) (fn := Try.f145) (af := af145) Try.func145 (named (m := "slices.IndexFunc[[]int,int]") (by kernel_rfl) (by decide)) (by kernel_rfl) (fun xs hok => does145 xs hok)

theorem tb72_sound : TabSound Try.prog tb72 := by
  intro f c h
  unfold tb72 at h
  split at h
  · cases h; exact sound145
  · cases h

theorem sound72 : Sound Try.prog 72 conAnyT := func_sound (C := tb72) (kt := ktI) (hws := []) tb72_sound (f := 72) (fn := Try.f72) (af := af72) Try.func72 (named (m := "slices.ContainsFunc[[]int,int]") (by kernel_rfl) (by decide)) (by kernel_rfl) (fun xs hok => does72 xs hok)

theorem tb21_sound : TabSound Try.prog tb21 := by
  intro f c h
  unfold tb21 at h
  split at h
  · cases h; exact sound70
  · cases h; exact sound71
  · cases h

theorem sound21 : Sound Try.prog 21 conOrder := func_sound (C := tb21) (kt := ktI) (hws := []) tb21_sound (f := 21) (fn := Try.f21) (af := af21) Try.func21 (named (m := "loop.example/g00678/spec.Order") (by kernel_rfl) (by decide)) (by kernel_rfl) (fun xs hok => does21 xs hok)

theorem tb22_sound : TabSound Try.prog tb22 := by
  intro f c h
  unfold tb22 at h
  split at h
  · cases h; exact sound67
  · cases h; exact sound72
  · cases h; exact sound73
  · cases h

theorem sound22 : Sound Try.prog 22 conOrder := func_sound (C := tb22) (kt := ktI) (hws := [(3, [.any, .any, .still, .any, .any, .any, .any], [([0, 1, 2, 3, 4, 5, 6], [(0, 3), (0, 4), (3, 4)]), ([0, 1, 2, 4, 3, 5, 6], [(0, 4), (0, 3), (4, 3)]), ([1, 2, 4, 0, 3, 5, 6], [(4, 0), (4, 3), (0, 3)]), ([1, 2, 3, 0, 4, 5, 6], [(3, 0), (3, 4), (0, 4)]), ([1, 2, 3, 4, 0, 5, 6], [(3, 4), (3, 0), (4, 0)]), ([1, 2, 4, 3, 0, 5, 6], [(4, 3), (4, 0), (3, 0)])])]) tb22_sound (f := 22) (fn := Try.f22) (af := af22) Try.func22 (named (m := "loop.example/g00678/impl.Order") (by kernel_rfl) (by decide)) (by kernel_rfl) (fun xs hok => does22 xs hok)

theorem tb5_sound : TabSound Try.prog tb5 := by
  intro f c h
  unfold tb5 at h
  split at h
  · cases h; exact sound16
  · cases h; exact sound18
  · cases h; exact sound20
  · cases h; exact sound21
  · cases h; exact sound22
  · cases h; exact sound23
  · cases h; exact sound24
  · cases h; exact sound25
  · cases h; exact sound26
  · cases h

theorem sound5 : Sound Try.prog 5 conLawR := func_sound (C := tb5) (kt := ktI) (hws := []) tb5_sound (f := 5) (fn := Try.f5) (af := af5) Try.func5 (named (m := "loop.example/g00678/laws.FnExactOrder") (by kernel_rfl) (by decide)) (by kernel_rfl) (fun xs hok => does5 xs hok)

end Go.Proofs.Ytnghlmogcbmlfaa
