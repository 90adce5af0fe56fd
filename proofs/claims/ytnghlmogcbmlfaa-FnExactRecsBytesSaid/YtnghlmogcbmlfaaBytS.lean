/- What the program writes of records in bytes is what the specification writes, for all arguments; no condition. -/
import Derived.Test.YtnghlmogcbmlfaaBytL
import Derived.Test.YtnghlmogcbmlfaaRows
namespace Go.Proofs.Ytnghlmogcbmlfaa
set_option linter.unusedVariables false
set_option linter.unusedSimpArgs false
set_option linter.unnecessarySimpa false

theorem named {n m : String} (h : n = m) (hm : m ≠ "runtime.NumGoroutine") : n ≠ "runtime.NumGoroutine" := h ▸ hm

theorem own_knob : ownKnob Try.prog.godebug = none := by kernel_rfl
theorem laid_out : laidOutB Try.prog = true := by kernel_rfl

def ktI : KT := [(2, .int), (3, .int), (4, .bool), (5, .u8), (9, .str), (23, .rcd), (25, .rcd), (28, .recs), (31, .recs), (35, .ints), (53, .node), (61, .node), (98, .bools), (106, .fact), (128, .doubt), (144, .item), (146, .item), (173, .rumor), (176, .fact), (179, .rumor), (181, .doubt)]

theorem tbNone_sound : TabSound Try.prog tbNone := fun _ _ h => by cases h

theorem sound54 : Sound Try.prog 54 conToI := func_sound (C := tbNone) (kt := ktI) (hws := []) tbNone_sound (f := 54) (fn := Try.f54) (af := af54) Try.func54 (named (m := "loop.example/g00678/laws.toInt64S") (by kernel_rfl) (by decide)) (by kernel_rfl) (fun xs hok => does54 xs hok)

theorem sound23 : Sound Try.prog 23 conEqI := func_sound (C := tbNone) (kt := ktI) (hws := [(6, [.any, .any, .any, .any, .any, .any, .any, .any, .any], [])]) tbNone_sound (f := 23) (fn := Try.f23) (af := af23) Try.func23 (named (m := "loop.example/g00678/laws.eqInt64S") (by kernel_rfl) (by decide)) (by kernel_rfl) (fun xs hok => does23 xs hok)

theorem sound25 : Sound Try.prog 25 conMarkI := func_sound (C := tbNone) (kt := ktI) (hws := []) tbNone_sound (f := 25) (fn := Try.f25) (af := af25) Try.func25 (named (m := "loop.example/g00678/laws.markInt64S") (by kernel_rfl) (by decide)) (by kernel_rfl) (fun xs hok => does25 xs hok)

theorem sound26 : Sound Try.prog 26 conHeldI := func_sound (C := tbNone) (kt := ktI) (hws := []) tbNone_sound (f := 26) (fn := Try.f26) (af := af26) Try.func26 (named (m := "loop.example/g00678/laws.heldInt64S") (by kernel_rfl) (by decide)) (by kernel_rfl) (fun xs hok => does26 xs hok)

theorem sound125 : Sound Try.prog 125 conIn := func_sound (C := tbNone) (kt := ktI) (hws := []) tbNone_sound (f := 125) (fn := Try.f125) (af := af125) Try.func125 (named (m := "loop.example/g00678/spec.l02Is") (by kernel_rfl) (by decide)) (by kernel_rfl) (fun xs hok => does125 xs hok)

theorem sound130 : Sound Try.prog 130 conIn := func_sound (C := tbNone) (kt := ktI) (hws := []) tbNone_sound (f := 130) (fn := Try.f130) (af := af130) Try.func130 (named (m := "loop.example/g00678/impl.within") (by kernel_rfl) (by decide)) (by kernel_rfl) (fun xs hok => does130 xs hok)

theorem tb85_sound : TabSound Try.prog tb85 := by
  intro f c h
  unfold tb85 at h
  split at h
  · cases h; exact sound125
  · cases h

theorem sound85 : Sound Try.prog 85 conTime := func_sound (C := tb85) (kt := ktI) (hws := []) tb85_sound (f := 85) (fn := Try.f85) (af := af85) Try.func85 (named (m := "loop.example/g00678/spec.l03Time") (by kernel_rfl) (by decide)) (by kernel_rfl) (fun xs hok => does85 xs hok)

theorem tb97_sound : TabSound Try.prog tb97 := by
  intro f c h
  unfold tb97 at h
  split at h
  · cases h; exact sound130
  · cases h

theorem sound97 : Sound Try.prog 97 conTime := func_sound (C := tb97) (kt := ktI) (hws := []) tb97_sound (f := 97) (fn := Try.f97) (af := af97) Try.func97 (named (m := "loop.example/g00678/impl.isTime") (by kernel_rfl) (by decide)) (by kernel_rfl) (fun xs hok => does97 xs hok)

theorem sound75 : Sound Try.prog 75 conNode := func_sound (C := tb85) (kt := ktI) (hws := []) tb85_sound (f := 75) (fn := Try.f75) (af := af75) Try.func75 (named (m := "loop.example/g00678/spec.l04Node") (by kernel_rfl) (by decide)) (by kernel_rfl) (fun xs hok => does75 xs hok)

theorem sound77 : Sound Try.prog 77 conNode := func_sound (C := tb97) (kt := ktI) (hws := []) tb97_sound (f := 77) (fn := Try.f77) (af := af77) Try.func77 (named (m := "loop.example/g00678/impl.isNode") (by kernel_rfl) (by decide)) (by kernel_rfl) (fun xs hok => does77 xs hok)

theorem sound14 : Sound Try.prog 14 conToRec := func_sound (C := tbNone) (kt := ktI) (hws := []) tbNone_sound (f := 14) (fn := Try.f14) (af := af14) Try.func14 (named (m := "loop.example/g00678/laws.toRec") (by kernel_rfl) (by decide)) (by kernel_rfl) (fun xs hok => does14 xs hok)

theorem sound69 : Sound Try.prog 69 conEqRec := func_sound (C := tbNone) (kt := ktI) (hws := []) tbNone_sound (f := 69) (fn := Try.f69) (af := af69) Try.func69 (named (m := "loop.example/g00678/laws.eqRec") (by kernel_rfl) (by decide)) (by kernel_rfl) (fun xs hok => does69 xs hok)

theorem tb18_sound : TabSound Try.prog tb18 := by
  intro f c h
  unfold tb18 at h
  split at h
  · cases h; exact sound14
  · cases h

theorem sound18 : Sound Try.prog 18 conToRecS := func_sound (C := tb18) (kt := ktI) (hws := []) tb18_sound (f := 18) (fn := Try.f18) (af := af18) Try.func18 (named (m := "loop.example/g00678/laws.toRecS") (by kernel_rfl) (by decide)) (by kernel_rfl) (fun xs hok => does18 xs hok)

theorem tb20_sound : TabSound Try.prog tb20 := by
  intro f c h
  unfold tb20 at h
  split at h
  · cases h; exact sound69
  · cases h

theorem sound20 : Sound Try.prog 20 conEqRecS := func_sound (C := tb20) (kt := ktI) (hws := [(6, [.any, .any, .any, .any, .any, .any, .any, .any, .pure, .any], [])]) tb20_sound (f := 20) (fn := Try.f20) (af := af20) Try.func20 (named (m := "loop.example/g00678/laws.eqRecS") (by kernel_rfl) (by decide)) (by kernel_rfl) (fun xs hok => does20 xs hok)

theorem sound16 : Sound Try.prog 16 conSzRecS := func_sound (C := tbNone) (kt := ktI) (hws := []) tbNone_sound (f := 16) (fn := Try.f16) (af := af16) Try.func16 (named (m := "loop.example/g00678/laws.szRecS") (by kernel_rfl) (by decide)) (by kernel_rfl) (fun xs hok => does16 xs hok)

theorem sound24 : Sound Try.prog 24 conMarkRecS := func_sound (C := tbNone) (kt := ktI) (hws := []) tbNone_sound (f := 24) (fn := Try.f24) (af := af24) Try.func24 (named (m := "loop.example/g00678/laws.markRecS") (by kernel_rfl) (by decide)) (by kernel_rfl) (fun xs hok => does24 xs hok)

theorem tb139_sound : TabSound Try.prog tb139 := by
  intro f c h
  unfold tb139 at h
  split at h
  · cases h; exact sound77
  · cases h; exact sound97
  · cases h; exact sound130
  · cases h

theorem sound139 : Sound Try.prog 139 conFact := func_sound (C := tb139) (kt := ktI) (hws := []) tb139_sound (f := 139) (fn := Try.f139) (af := af139) Try.func139 (named (m := "loop.example/g00678/impl.FactRight") (by kernel_rfl) (by decide)) (by kernel_rfl) (fun xs hok => does139 xs hok)

theorem tb155_sound : TabSound Try.prog tb155 := by
  intro f c h
  unfold tb155 at h
  split at h
  · cases h; exact sound75
  · cases h; exact sound85
  · cases h; exact sound125
  · cases h

theorem sound155 : Sound Try.prog 155 conFact := func_sound (C := tb155) (kt := ktI) (hws := []) tb155_sound (f := 155) (fn := Try.f155) (af := af155) Try.func155 (named (m := "loop.example/g00678/spec.FactRight") (by kernel_rfl) (by decide)) (by kernel_rfl) (fun xs hok => does155 xs hok)

theorem sound61 : Sound Try.prog 61 conRecOk := func_sound (C := tb155) (kt := ktI) (hws := []) tb155_sound (f := 61) (fn := Try.f61) (af := af61) Try.func61 (named (m := "loop.example/g00678/spec.RecRight") (by kernel_rfl) (by decide)) (by kernel_rfl) (fun xs hok => does61 xs hok)

theorem tb63_sound : TabSound Try.prog tb63 := by
  intro f c h
  unfold tb63 at h
  split at h
  · cases h; exact sound77
  · cases h; exact sound97
  · cases h; exact sound139
  · cases h

theorem sound63 : Sound Try.prog 63 conRecOk := func_sound (C := tb63) (kt := ktI) (hws := []) tb63_sound (f := 63) (fn := Try.f63) (af := af63) Try.func63 (named (m := "loop.example/g00678/impl.RecRight") (by kernel_rfl) (by decide)) (by kernel_rfl) (fun xs hok => does63 xs hok)

theorem sound199 : Sound Try.prog 199 conFold := func_sound (C := tbNone) (kt := ktI) (hws := []) tbNone_sound (f := 199) (fn := Try.f199) (af := af199) Try.func199 (named (m := "loop.example/g00678/spec.l01Fold") (by kernel_rfl) (by decide)) (by kernel_rfl) (fun xs hok => does199 xs hok)

theorem tb138_sound : TabSound Try.prog tb138 := by
  intro f c h
  unfold tb138 at h
  split at h
  · cases h; exact sound199
  · cases h

theorem sound138 : Sound Try.prog 138 conPut := func_sound (C := tb138) (kt := ktI) (hws := []) tb138_sound (f := 138) (fn := Try.f138) (af := af138) Try.func138 (named (m := "loop.example/g00678/spec.PutNum") (by kernel_rfl) (by decide)) (by kernel_rfl) (fun xs hok => does138 xs hok)

theorem sound140 : Sound Try.prog 140 conPut := func_sound (C := tbNone) (kt := ktI) (hws := []) tbNone_sound (f := 140) (fn := Try.f140) (af := af140) Try.func140 (named (m := "loop.example/g00678/impl.PutNum") (by kernel_rfl) (by decide)) (by kernel_rfl) (fun xs hok => does140 xs hok)

theorem sound68 : Sound Try.prog 68 conLong := func_sound (C := tbNone) (kt := ktI) (hws := []) tbNone_sound (f := 68) (fn := Try.f68) (af := af68) Try.func68 (named (m := "loop.example/g00678/impl.longText") (by kernel_rfl) (by decide)) (by kernel_rfl) (fun xs hok => does68 xs hok)

theorem sound200 : Sound Try.prog 200 conCrcMore := func_sound (C := tbNone) (kt := ktI) (hws := []) tbNone_sound (f := 200) (fn := Try.f200) (af := af200) Try.func200 (named (m := "loop.example/g00678/impl.crcMore") (by kernel_rfl) (by decide)) (by kernel_rfl) (fun xs hok => does200 xs hok)

theorem tb141_sound : TabSound Try.prog tb141 := by
  intro f c h
  unfold tb141 at h
  split at h
  · cases h; exact sound68
  · cases h; exact sound200
  · cases h

theorem sound141 : Sound Try.prog 141 conCrc := func_sound (C := tb141) (kt := ktI) (hws := []) tb141_sound (f := 141) (fn := Try.f141) (af := af141) Try.func141 (named (m := "loop.example/g00678/impl.Crc") (by kernel_rfl) (by decide)) (by kernel_rfl) (fun xs hok => does141 xs hok)

theorem sound198 : Sound Try.prog 198 conCrcS := func_sound (C := tbNone) (kt := ktI) (hws := []) tbNone_sound (f := 198) (fn := Try.f198) (af := af198) Try.func198 (named (m := "loop.example/g00678/spec.l01Crc") (by kernel_rfl) (by decide)) (by kernel_rfl) (fun xs hok => does198 xs hok)

theorem sound197 : Sound Try.prog 197 conFour := func_sound (C := tbNone) (kt := ktI) (hws := []) tbNone_sound (f := 197) (fn := Try.f197) (af := af197) Try.func197 (named (m := "loop.example/g00678/spec.l01Four") (by kernel_rfl) (by decide)) (by kernel_rfl) (fun xs hok => does197 xs hok)

theorem tb65_sound : TabSound Try.prog tb65 := by
  intro f c h
  unfold tb65 at h
  split at h
  · cases h; exact sound141
  · cases h

theorem sound65 : Sound Try.prog 65 conSeal := func_sound (C := tb65) (kt := ktI) (hws := []) tb65_sound (f := 65) (fn := Try.f65) (af := af65) Try.func65 (named (m := "loop.example/g00678/impl.Seal") (by kernel_rfl) (by decide)) (by kernel_rfl) (fun xs hok => does65 xs hok)

theorem tb137_sound : TabSound Try.prog tb137 := by
  intro f c h
  unfold tb137 at h
  split at h
  · cases h; exact sound197
  · cases h; exact sound198
  · cases h

theorem sound137 : Sound Try.prog 137 conSeal := func_sound (C := tb137) (kt := ktI) (hws := []) tb137_sound (f := 137) (fn := Try.f137) (af := af137) Try.func137 (named (m := "loop.example/g00678/spec.Seal") (by kernel_rfl) (by decide)) (by kernel_rfl) (fun xs hok => does137 xs hok)

theorem tb64_sound : TabSound Try.prog tb64 := by
  intro f c h
  unfold tb64 at h
  split at h
  · cases h; exact sound68
  · cases h; exact sound140
  · cases h

theorem sound64 : Sound Try.prog 64 conPutText := func_sound (C := tb64) (kt := ktI) (hws := []) tb64_sound (f := 64) (fn := Try.f64) (af := af64) Try.func64 (named (m := "loop.example/g00678/impl.PutText") (by kernel_rfl) (by decide)) (by kernel_rfl) (fun xs hok => does64 xs hok)

theorem tb136_sound : TabSound Try.prog tb136 := by
  intro f c h
  unfold tb136 at h
  split at h
  · cases h; exact sound138
  · cases h

theorem sound136 : Sound Try.prog 136 conPutText := func_sound (C := tb136) (kt := ktI) (hws := []) tb136_sound (f := 136) (fn := Try.f136) (af := af136) Try.func136 (named (m := "loop.example/g00678/spec.PutText") (by kernel_rfl) (by decide)) (by kernel_rfl) (fun xs hok => does136 xs hok)

theorem tb66_sound : TabSound Try.prog tb66 := by
  intro f c h
  unfold tb66 at h
  split at h
  · cases h; exact sound140
  · cases h

theorem sound66 : Sound Try.prog 66 conNums := func_sound (C := tb66) (kt := ktI) (hws := []) tb66_sound (f := 66) (fn := Try.f66) (af := af66) Try.func66 (named (m := "loop.example/g00678/impl.numbers") (by kernel_rfl) (by decide)) (by kernel_rfl) (fun xs hok => does66 xs hok)

theorem tb62_sound : TabSound Try.prog tb62 := by
  intro f c h
  unfold tb62 at h
  split at h
  · cases h; exact sound136
  · cases h; exact sound137
  · cases h; exact sound138
  · cases h

theorem sound62 : Sound Try.prog 62 conL10 := func_sound (C := tb62) (kt := ktI) (hws := [(1, [.any, .boxed, .pure, .any, .boxed, .pure, .any, .any, .boxed, .pure, .any, .any, .boxed, .pure, .any, .any, .boxed, .pure, .any, .any, .boxed, .pure, .any, .pure, .pure, .any], [])]) tb62_sound (f := 62) (fn := Try.f62) (af := af62) Try.func62 (named (m := "loop.example/g00678/spec.l10Bytes") (by kernel_rfl) (by decide)) (by kernel_rfl) (fun xs hok => does62 xs hok)

theorem tb13_sound : TabSound Try.prog tb13 := by
  intro f c h
  unfold tb13 at h
  split at h
  · cases h; exact sound61
  · cases h; exact sound62
  · cases h

theorem sound13 : Sound Try.prog 13 conRecB := func_sound (C := tb13) (kt := ktI) (hws := []) tb13_sound (f := 13) (fn := Try.f13) (af := af13) Try.func13 (named (m := "loop.example/g00678/spec.RecBytes") (by kernel_rfl) (by decide)) (by kernel_rfl) (fun xs hok => does13 xs hok)

theorem tb15_sound : TabSound Try.prog tb15 := by
  intro f c h
  unfold tb15 at h
  split at h
  · cases h; exact sound63
  · cases h; exact sound64
  · cases h; exact sound65
  · cases h; exact sound66
  · cases h

theorem sound15 : Sound Try.prog 15 conRecB := func_sound (C := tb15) (kt := ktI) (hws := []) tb15_sound (f := 15) (fn := Try.f15) (af := af15) Try.func15 (named (m := "loop.example/g00678/impl.RecBytes") (by kernel_rfl) (by decide)) (by kernel_rfl) (fun xs hok => does15 xs hok)

theorem sound215 : Sound Try.prog 215 conIsLife := func_sound (C := tbNone) (kt := ktI) (hws := []) tbNone_sound (f := 215) (fn := Try.f215) (af := af215) Try.func215 (named (m := "loop.example/g00678/impl.isLife") (by kernel_rfl) (by decide)) (by kernel_rfl) (fun xs hok => does215 xs hok)

theorem tb143_sound : TabSound Try.prog tb143 := by
  intro f c h
  unfold tb143 at h
  split at h
  · cases h; exact sound63
  · cases h

theorem sound143 : Sound Try.prog 143 conCl143 := func_sound (C := tb143) (kt := ktI) (hws := []) tb143_sound (f := 143) (fn := Try.f143) (af := af143) Try.func143 (named (m := "loop.example/g00678/impl.areRecs$1") (by kernel_rfl) (by decide)) (by kernel_rfl) (fun xs hok => does143 xs hok)

theorem tb214_sound : TabSound Try.prog tb214 := by
  intro f c h
  unfold tb214 at h
  split at h
  · cases h; exact sound215
  · cases h

theorem sound214 : Sound Try.prog 214 conCl214 := func_sound (C := tb214) (kt := ktI) (hws := []) tb214_sound (f := 214) (fn := Try.f214) (af := af214) Try.func214 (named (m := "loop.example/g00678/impl.lifeOf$1") (by kernel_rfl) (by decide)) (by kernel_rfl) (fun xs hok => does214 xs hok)

theorem sound147 : Sound Try.prog 147 conCl147 := func_sound (C := tbNone) (kt := ktI) (hws := []) tbNone_sound (f := 147) (fn := Try.f147) (af := af147) Try.func147 (named (m := "loop.example/g00678/impl.directly$1") (by kernel_rfl) (by decide)) (by kernel_rfl) (fun xs hok => does147 xs hok)

theorem sound201 : Sound Try.prog 201 conCl201 := func_sound (C := tbNone) (kt := ktI) (hws := []) tbNone_sound (f := 201) (fn := Try.f201) (af := af201) Try.func201 (named (m := "loop.example/g00678/impl.isSentFor$1") (by kernel_rfl) (by decide)) (by kernel_rfl) (fun xs hok => does201 xs hok)

theorem tbCl_sound : TabSound Try.prog tbCl := by
  intro f c h
  unfold tbCl at h
  split at h
  · cases h; exact sound143
  · cases h; exact sound147
  · cases h; exact sound201
  · cases h; exact sound214
  · cases h

theorem sound194 : Sound Try.prog 194 conIndexR := func_sound (C := tbCl) (kt := ktI) (hws := []) tbCl_sound (f := 194) (fn := Try.f194) (af := af194) Try.func194 (named (m := "slices.IndexFunc[[]loop.example/g00678/impl.Rec,loop.example/g00678/impl.Rec]") (by kernel_rfl) (by decide)) (by kernel_rfl) (fun xs hok => does194 xs hok)

theorem tb142_sound : TabSound Try.prog tb142 := by
  intro f c h
  unfold tb142 at h
  split at h
  · cases h; exact sound194
  · cases h

theorem sound142 : Sound Try.prog 142 conContainsR := func_sound (C := tb142) (kt := ktI) (hws := []) tb142_sound (f := 142) (fn := Try.f142) (af := af142) Try.func142 (named (m := "slices.ContainsFunc[[]loop.example/g00678/impl.Rec,loop.example/g00678/impl.Rec]") (by kernel_rfl) (by decide)) (by kernel_rfl) (fun xs hok => does142 xs hok)

theorem sound146 : Sound Try.prog 146 conLastOf := func_sound (C := tbCl) (kt := ktI) (hws := []) tbCl_sound (f := 146) (fn := Try.f146) (af := af146) Try.func146 (named (m := "loop.example/g00678/impl.lastOf") (by kernel_rfl) (by decide)) (by kernel_rfl) (fun xs hok => does146 xs hok)

theorem tb67_sound : TabSound Try.prog tb67 := by
  intro f c h
  unfold tb67 at h
  split at h
  · cases h; exact sound142
  · cases h

theorem sound67 : Sound Try.prog 67 conRecsOk := func_sound (C := tb67) (kt := ktI) (hws := []) tb67_sound (f := 67) (fn := Try.f67) (af := af67) Try.func67 (named (m := "loop.example/g00678/impl.areRecs") (by kernel_rfl) (by decide)) (by kernel_rfl) (fun xs hok => does67 xs hok)

theorem tb70_sound : TabSound Try.prog tb70 := by
  intro f c h
  unfold tb70 at h
  split at h
  · cases h; exact sound61
  · cases h

theorem sound70 : Sound Try.prog 70 conRecsOk := func_sound (C := tb70) (kt := ktI) (hws := []) tb70_sound (f := 70) (fn := Try.f70) (af := af70) Try.func70 (named (m := "loop.example/g00678/spec.l12Recs") (by kernel_rfl) (by decide)) (by kernel_rfl) (fun xs hok => does70 xs hok)

theorem tb17_sound : TabSound Try.prog tb17 := by
  intro f c h
  unfold tb17 at h
  split at h
  · cases h; exact sound13
  · cases h

theorem sound17 : Sound Try.prog 17 conRecsB := func_sound (C := tb17) (kt := ktI) (hws := []) tb17_sound (f := 17) (fn := Try.f17) (af := af17) Try.func17 (named (m := "loop.example/g00678/spec.RecsBytes") (by kernel_rfl) (by decide)) (by kernel_rfl) (fun xs hok => does17 xs hok)

theorem tb19_sound : TabSound Try.prog tb19 := by
  intro f c h
  unfold tb19 at h
  split at h
  · cases h; exact sound15
  · cases h; exact sound67
  · cases h; exact sound68
  · cases h

theorem sound19 : Sound Try.prog 19 conRecsB := func_sound (C := tb19) (kt := ktI) (hws := []) tb19_sound (f := 19) (fn := Try.f19) (af := af19) Try.func19 (named (m := "loop.example/g00678/impl.RecsBytes") (by kernel_rfl) (by decide)) (by kernel_rfl) (fun xs hok => does19 xs hok)

theorem tb3_sound : TabSound Try.prog tb3 := by
  intro f c h
  unfold tb3 at h
  split at h
  · cases h; exact sound13
  · cases h; exact sound14
  · cases h; exact sound15
  · cases h

theorem sound3 : Sound Try.prog 3 conLawB := func_sound (C := tb3) (kt := ktI) (hws := []) tb3_sound (f := 3) (fn := Try.f3) (af := af3) Try.func3 (named (m := "loop.example/g00678/laws.FnExactRecBytes") (by kernel_rfl) (by decide)) (by kernel_rfl) (fun xs hok => does3 xs hok)

theorem tb4_sound : TabSound Try.prog tb4 := by
  intro f c h
  unfold tb4 at h
  split at h
  · cases h; exact sound16
  · cases h; exact sound17
  · cases h; exact sound18
  · cases h; exact sound19
  · cases h; exact sound20
  · cases h

theorem sound4 : Sound Try.prog 4 conLawR := func_sound (C := tb4) (kt := ktI) (hws := []) tb4_sound (f := 4) (fn := Try.f4) (af := af4) Try.func4 (named (m := "loop.example/g00678/laws.FnExactRecsBytes") (by kernel_rfl) (by decide)) (by kernel_rfl) (fun xs hok => does4 xs hok)

end Go.Proofs.Ytnghlmogcbmlfaa
