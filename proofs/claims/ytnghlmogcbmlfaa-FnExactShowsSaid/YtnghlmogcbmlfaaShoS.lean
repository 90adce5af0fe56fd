/- Which lines the program takes to show that a clause is broken are those that the specification takes, for all arguments; no condition. -/
import Derived.Test.YtnghlmogcbmlfaaShoL
import Derived.Test.YtnghlmogcbmlfaaRows
namespace Go.Proofs.Ytnghlmogcbmlfaa
set_option linter.unusedVariables false
set_option linter.unusedSimpArgs false
set_option linter.unnecessarySimpa false

theorem named {n m : String} (h : n = m) (hm : m ≠ "runtime.NumGoroutine") : n ≠ "runtime.NumGoroutine" := h ▸ hm

theorem own_knob : ownKnob Try.prog.godebug = none := by kernel_rfl
theorem laid_out : laidOutB Try.prog = true := by kernel_rfl

def ktI : KT := [(2, .int), (3, .int), (4, .bool), (5, .u8), (9, .str), (23, .rcd), (25, .rcd), (28, .recs), (31, .recs), (35, .ints), (53, .node), (61, .node), (98, .bools), (106, .fact), (128, .doubt), (144, .item), (146, .item), (173, .rumor), (176, .fact), (179, .rumor), (181, .doubt)]

theorem tbNone_sound : TabSound Try.prog tbNone := fun _ _ h => by cases h

theorem sound54 : Sound Try.prog 54 conToI := func_sound (C := tbNone) (kt := ktI) (hws := []) tbNone_sound (f := 54) (fn := Try.f54) (af := af54) Try.func54 (named (m := "loop.example/g00678/laws.toInt64S") (by kernel_rfl) (by decide)) (by kernel_rfl) (fun xs hok => does54 xs hok)

theorem sound23 : Sound Try.prog 23 conEqI := func_sound (C := tbNone) (kt := ktI) (hws := [(6, [.any, .any, .any, .any, .any, .any, .any, .any, .any], [])]) tbNone_sound (f := 23) (fn := Try.f23) (af := af23) Try.func23 (named (m := "loop.example/g00678/laws.eqInt64S") (by kernel_rfl) (by decide)) (by kernel_rfl) (fun xs hok => does23 xs hok)

theorem sound25 : Sound Try.prog 25 conMarkI := func_sound (C := tbNone) (kt := ktI) (hws := []) tbNone_sound (f := 25) (fn := Try.f25) (af := af25) Try.func25 (named (m := "loop.example/g00678/laws.markInt64S") (by kernel_rfl) (by decide)) (by kernel_rfl) (fun xs hok => does25 xs hok)

theorem sound26 : Sound Try.prog 26 conHeldI := func_sound (C := tbNone) (kt := ktI) (hws := []) tbNone_sound (f := 26) (fn := Try.f26) (af := af26) Try.func26 (named (m := "loop.example/g00678/laws.heldInt64S") (by kernel_rfl) (by decide)) (by kernel_rfl) (fun xs hok => does26 xs hok)

theorem sound125 : Sound Try.prog 125 conIn := func_sound (C := tbNone) (kt := ktI) (hws := []) tbNone_sound (f := 125) (fn := Try.f125) (af := af125) Try.func125 (named (m := "loop.example/g00678/spec.l02Is") (by kernel_rfl) (by decide)) (by kernel_rfl) (fun xs hok => does125 xs hok)

theorem sound130 : Sound Try.prog 130 conIn := func_sound (C := tbNone) (kt := ktI) (hws := []) tbNone_sound (f := 130) (fn := Try.f130) (af := af130) Try.func130 (named (m := "loop.example/g00678/impl.within") (by kernel_rfl) (by decide)) (by kernel_rfl) (fun xs hok => does130 xs hok)

theorem tb85_sound : TabSound Try.prog tb85 := by
  intro f c h
  unfold tb85 at h
  split at h
  · cases h; exact sound125
  · cases h

theorem sound85 : Sound Try.prog 85 conTime := func_sound (C := tb85) (kt := ktI) (hws := []) tb85_sound (f := 85) (fn := Try.f85) (af := af85) Try.func85 (named (m := "loop.example/g00678/spec.l03Time") (by kernel_rfl) (by decide)) (by kernel_rfl) (fun xs hok => does85 xs hok)

theorem tb97_sound : TabSound Try.prog tb97 := by
  intro f c h
  unfold tb97 at h
  split at h
  · cases h; exact sound130
  · cases h

theorem sound97 : Sound Try.prog 97 conTime := func_sound (C := tb97) (kt := ktI) (hws := []) tb97_sound (f := 97) (fn := Try.f97) (af := af97) Try.func97 (named (m := "loop.example/g00678/impl.isTime") (by kernel_rfl) (by decide)) (by kernel_rfl) (fun xs hok => does97 xs hok)

theorem sound75 : Sound Try.prog 75 conNode := func_sound (C := tb85) (kt := ktI) (hws := []) tb85_sound (f := 75) (fn := Try.f75) (af := af75) Try.func75 (named (m := "loop.example/g00678/spec.l04Node") (by kernel_rfl) (by decide)) (by kernel_rfl) (fun xs hok => does75 xs hok)

theorem sound77 : Sound Try.prog 77 conNode := func_sound (C := tb97) (kt := ktI) (hws := []) tb97_sound (f := 77) (fn := Try.f77) (af := af77) Try.func77 (named (m := "loop.example/g00678/impl.isNode") (by kernel_rfl) (by decide)) (by kernel_rfl) (fun xs hok => does77 xs hok)

theorem sound14 : Sound Try.prog 14 conToRec := func_sound (C := tbNone) (kt := ktI) (hws := []) tbNone_sound (f := 14) (fn := Try.f14) (af := af14) Try.func14 (named (m := "loop.example/g00678/laws.toRec") (by kernel_rfl) (by decide)) (by kernel_rfl) (fun xs hok => does14 xs hok)

theorem sound69 : Sound Try.prog 69 conEqRec := func_sound (C := tbNone) (kt := ktI) (hws := []) tbNone_sound (f := 69) (fn := Try.f69) (af := af69) Try.func69 (named (m := "loop.example/g00678/laws.eqRec") (by kernel_rfl) (by decide)) (by kernel_rfl) (fun xs hok => does69 xs hok)

theorem tb18_sound : TabSound Try.prog tb18 := by
  intro f c h
  unfold tb18 at h
  split at h
  · cases h; exact sound14
  · cases h

theorem sound18 : Sound Try.prog 18 conToRecS := func_sound (C := tb18) (kt := ktI) (hws := []) tb18_sound (f := 18) (fn := Try.f18) (af := af18) Try.func18 (named (m := "loop.example/g00678/laws.toRecS") (by kernel_rfl) (by decide)) (by kernel_rfl) (fun xs hok => does18 xs hok)

theorem tb20_sound : TabSound Try.prog tb20 := by
  intro f c h
  unfold tb20 at h
  split at h
  · cases h; exact sound69
  · cases h

theorem sound20 : Sound Try.prog 20 conEqRecS := func_sound (C := tb20) (kt := ktI) (hws := [(6, [.any, .any, .any, .any, .any, .any, .any, .any, .pure, .any], [])]) tb20_sound (f := 20) (fn := Try.f20) (af := af20) Try.func20 (named (m := "loop.example/g00678/laws.eqRecS") (by kernel_rfl) (by decide)) (by kernel_rfl) (fun xs hok => does20 xs hok)

theorem sound16 : Sound Try.prog 16 conSzRecS := func_sound (C := tbNone) (kt := ktI) (hws := []) tbNone_sound (f := 16) (fn := Try.f16) (af := af16) Try.func16 (named (m := "loop.example/g00678/laws.szRecS") (by kernel_rfl) (by decide)) (by kernel_rfl) (fun xs hok => does16 xs hok)

theorem tb139_sound : TabSound Try.prog tb139 := by
  intro f c h
  unfold tb139 at h
  split at h
  · cases h; exact sound77
  · cases h; exact sound97
  · cases h; exact sound130
  · cases h

theorem sound139 : Sound Try.prog 139 conFact := func_sound (C := tb139) (kt := ktI) (hws := []) tb139_sound (f := 139) (fn := Try.f139) (af := af139) Try.func139 (named (m := "loop.example/g00678/impl.FactRight") (by kernel_rfl) (by decide)) (by kernel_rfl) (fun xs hok => does139 xs hok)

theorem tb155_sound : TabSound Try.prog tb155 := by
  intro f c h
  unfold tb155 at h
  split at h
  · cases h; exact sound75
  · cases h; exact sound85
  · cases h; exact sound125
  · cases h

theorem sound155 : Sound Try.prog 155 conFact := func_sound (C := tb155) (kt := ktI) (hws := []) tb155_sound (f := 155) (fn := Try.f155) (af := af155) Try.func155 (named (m := "loop.example/g00678/spec.FactRight") (by kernel_rfl) (by decide)) (by kernel_rfl) (fun xs hok => does155 xs hok)

theorem sound61 : Sound Try.prog 61 conRecOk := func_sound (C := tb155) (kt := ktI) (hws := []) tb155_sound (f := 61) (fn := Try.f61) (af := af61) Try.func61 (named (m := "loop.example/g00678/spec.RecRight") (by kernel_rfl) (by decide)) (by kernel_rfl) (fun xs hok => does61 xs hok)

theorem tb63_sound : TabSound Try.prog tb63 := by
  intro f c h
  unfold tb63 at h
  split at h
  · cases h; exact sound77
  · cases h; exact sound97
  · cases h; exact sound139
  · cases h

theorem sound63 : Sound Try.prog 63 conRecOk := func_sound (C := tb63) (kt := ktI) (hws := []) tb63_sound (f := 63) (fn := Try.f63) (af := af63) Try.func63 (named (m := "loop.example/g00678/impl.RecRight") (by kernel_rfl) (by decide)) (by kernel_rfl) (fun xs hok => does63 xs hok)

theorem sound186 : Sound Try.prog 186 conIsOwn := func_sound (C := tbNone) (kt := ktI) (hws := []) tbNone_sound (f := 186) (fn := Try.f186) (af := af186) Try.func186 (named (m := "loop.example/g00678/impl.isOwn") (by kernel_rfl) (by decide)) (by kernel_rfl) (fun xs hok => does186 xs hok)

theorem sound178 : Sound Try.prog 178 conTold := func_sound (C := tbNone) (kt := ktI) (hws := []) tbNone_sound (f := 178) (fn := Try.f178) (af := af178) Try.func178 (named (m := "loop.example/g00678/spec.l12Told") (by kernel_rfl) (by decide)) (by kernel_rfl) (fun xs hok => does178 xs hok)

theorem sound212 : Sound Try.prog 212 conLess := func_sound (C := tbNone) (kt := ktI) (hws := []) tbNone_sound (f := 212) (fn := Try.f212) (af := af212) Try.func212 (named (m := "loop.example/g00678/impl.less") (by kernel_rfl) (by decide)) (by kernel_rfl) (fun xs hok => does212 xs hok)

theorem sound202 : Sound Try.prog 202 conLess := func_sound (C := tbNone) (kt := ktI) (hws := []) tbNone_sound (f := 202) (fn := Try.f202) (af := af202) Try.func202 (named (m := "loop.example/g00678/spec.l04Less") (by kernel_rfl) (by decide)) (by kernel_rfl) (fun xs hok => does202 xs hok)

theorem sound79 : Sound Try.prog 79 conFactOf := func_sound (C := tbNone) (kt := ktI) (hws := []) tbNone_sound (f := 79) (fn := Try.f79) (af := af79) Try.func79 (named (m := "loop.example/g00678/impl.factOf") (by kernel_rfl) (by decide)) (by kernel_rfl) (fun xs hok => does79 xs hok)

theorem tb179_sound : TabSound Try.prog tb179 := by
  intro f c h
  unfold tb179 at h
  split at h
  · cases h; exact sound202
  · cases h

theorem sound179 : Sound Try.prog 179 conLeast := func_sound (C := tb179) (kt := ktI) (hws := []) tb179_sound (f := 179) (fn := Try.f179) (af := af179) Try.func179 (named (m := "loop.example/g00678/spec.l12Least") (by kernel_rfl) (by decide)) (by kernel_rfl) (fun xs hok => does179 xs hok)

theorem sound129 : Sound Try.prog 129 conClause := func_sound (C := tb97) (kt := ktI) (hws := []) tb97_sound (f := 129) (fn := Try.f129) (af := af129) Try.func129 (named (m := "loop.example/g00678/impl.isClause") (by kernel_rfl) (by decide)) (by kernel_rfl) (fun xs hok => does129 xs hok)

theorem sound215 : Sound Try.prog 215 conIsLife := func_sound (C := tbNone) (kt := ktI) (hws := []) tbNone_sound (f := 215) (fn := Try.f215) (af := af215) Try.func215 (named (m := "loop.example/g00678/impl.isLife") (by kernel_rfl) (by decide)) (by kernel_rfl) (fun xs hok => does215 xs hok)

theorem tb143_sound : TabSound Try.prog tb143 := by
  intro f c h
  unfold tb143 at h
  split at h
  · cases h; exact sound63
  · cases h

theorem sound143 : Sound Try.prog 143 conCl143 := func_sound (C := tb143) (kt := ktI) (hws := []) tb143_sound (f := 143) (fn := Try.f143) (af := af143) Try.func143 (named (m := "loop.example/g00678/impl.areRecs$1") (by kernel_rfl) (by decide)) (by kernel_rfl) (fun xs hok => does143 xs hok)

theorem tb214_sound : TabSound Try.prog tb214 := by
  intro f c h
  unfold tb214 at h
  split at h
  · cases h; exact sound215
  · cases h

theorem sound214 : Sound Try.prog 214 conCl214 := func_sound (C := tb214) (kt := ktI) (hws := []) tb214_sound (f := 214) (fn := Try.f214) (af := af214) Try.func214 (named (m := "loop.example/g00678/impl.lifeOf$1") (by kernel_rfl) (by decide)) (by kernel_rfl) (fun xs hok => does214 xs hok)

theorem sound147 : Sound Try.prog 147 conCl147 := func_sound (C := tbNone) (kt := ktI) (hws := []) tbNone_sound (f := 147) (fn := Try.f147) (af := af147) Try.func147 (named (m := "loop.example/g00678/impl.directly$1") (by kernel_rfl) (by decide)) (by kernel_rfl) (fun xs hok => does147 xs hok)

theorem sound201 : Sound Try.prog 201 conCl201 := func_sound (C := tbNone) (kt := ktI) (hws := []) tbNone_sound (f := 201) (fn := Try.f201) (af := af201) Try.func201 (named (m := "loop.example/g00678/impl.isSentFor$1") (by kernel_rfl) (by decide)) (by kernel_rfl) (fun xs hok => does201 xs hok)

theorem sound211 : Sound Try.prog 211 conCl211 := func_sound (C := tbNone) (kt := ktI) (hws := []) tbNone_sound (f := 211) (fn := Try.f211) (af := af211) Try.func211 (named (m := "loop.example/g00678/impl.risen$1") (by kernel_rfl) (by decide)) (by kernel_rfl) (fun xs hok => does211 xs hok)

theorem tb209_sound : TabSound Try.prog tb209 := by
  intro f c h
  unfold tb209 at h
  split at h
  · cases h; exact sound186
  · cases h

theorem sound209 : Sound Try.prog 209 conCl209 := func_sound (C := tb209) (kt := ktI) (hws := []) tb209_sound (f := 209) (fn := Try.f209) (af := af209) Try.func209 (named (m := "loop.example/g00678/impl.noLess$1") (by kernel_rfl) (by decide)) (by kernel_rfl) (fun xs hok => does209 xs hok)

theorem sound210 : Sound Try.prog 210 conCl210 := func_sound (C := tbNone) (kt := ktI) (hws := []) tbNone_sound (f := 210) (fn := Try.f210) (af := af210) Try.func210 (named (m := "loop.example/g00678/impl.same$1") (by kernel_rfl) (by decide)) (by kernel_rfl) (fun xs hok => does210 xs hok)

theorem sound185 : Sound Try.prog 185 conCl185 := func_sound (C := tb209) (kt := ktI) (hws := []) tb209_sound (f := 185) (fn := Try.f185) (af := af185) Try.func185 (named (m := "loop.example/g00678/impl.breaks$1") (by kernel_rfl) (by decide)) (by kernel_rfl) (fun xs hok => does185 xs hok)

theorem sound187 : Sound Try.prog 187 conCl187 := func_sound (C := tbNone) (kt := ktI) (hws := []) tbNone_sound (f := 187) (fn := Try.f187) (af := af187) Try.func187 (named (m := "loop.example/g00678/impl.breaks$2") (by kernel_rfl) (by decide)) (by kernel_rfl) (fun xs hok => does187 xs hok)

theorem sound188 : Sound Try.prog 188 conCl188 := func_sound (C := tbNone) (kt := ktI) (hws := []) tbNone_sound (f := 188) (fn := Try.f188) (af := af188) Try.func188 (named (m := "loop.example/g00678/impl.breaks$3") (by kernel_rfl) (by decide)) (by kernel_rfl) (fun xs hok => does188 xs hok)

theorem sound192 : Sound Try.prog 192 conCl192 := func_sound (C := tbNone) (kt := ktI) (hws := []) tbNone_sound (f := 192) (fn := Try.f192) (af := af192) Try.func192 (named (m := "loop.example/g00678/impl.shown$1") (by kernel_rfl) (by decide)) (by kernel_rfl) (fun xs hok => does192 xs hok)

theorem sound189 : Sound Try.prog 189 conCl189 := func_sound (C := tbNone) (kt := ktI) (hws := []) tbNone_sound (f := 189) (fn := Try.f189) (af := af189) Try.func189 (named (m := "loop.example/g00678/impl.speaks$1") (by kernel_rfl) (by decide)) (by kernel_rfl) (fun xs hok => does189 xs hok)

theorem sound190 : Sound Try.prog 190 conCl190 := func_sound (C := tbNone) (kt := ktI) (hws := []) tbNone_sound (f := 190) (fn := Try.f190) (af := af190) Try.func190 (named (m := "loop.example/g00678/impl.speaks$2") (by kernel_rfl) (by decide)) (by kernel_rfl) (fun xs hok => does190 xs hok)

theorem tbCl_sound : TabSound Try.prog tbCl := by
  intro f c h
  unfold tbCl at h
  split at h
  · cases h; exact sound143
  · cases h; exact sound147
  · cases h; exact sound185
  · cases h; exact sound187
  · cases h; exact sound188
  · cases h; exact sound189
  · cases h; exact sound190
  · cases h; exact sound192
  · cases h; exact sound201
  · cases h; exact sound209
  · cases h; exact sound210
  · cases h; exact sound211
  · cases h; exact sound214
  · cases h

theorem sound194 : Sound Try.prog 194 conIndexR := func_sound (C := tbCl) (kt := ktI) (hws := []) tbCl_sound (f := 194) (fn := Try.f194) (af := af194) Try.func194 (named (m := "slices.IndexFunc[[]loop.example/g00678/impl.Rec,loop.example/g00678/impl.Rec]") (by kernel_rfl) (by decide)) (by kernel_rfl) (fun xs hok => does194 xs hok)

theorem tb142_sound : TabSound Try.prog tb142 := by
  intro f c h
  unfold tb142 at h
  split at h
  · cases h; exact sound194
  · cases h

theorem sound142 : Sound Try.prog 142 conContainsR := func_sound (C := tb142) (kt := ktI) (hws := []) tb142_sound (f := 142) (fn := Try.f142) (af := af142) Try.func142 (named (m := "slices.ContainsFunc[[]loop.example/g00678/impl.Rec,loop.example/g00678/impl.Rec]") (by kernel_rfl) (by decide)) (by kernel_rfl) (fun xs hok => does142 xs hok)

theorem sound146 : Sound Try.prog 146 conLastOf := func_sound (C := tbCl) (kt := ktI) (hws := []) tbCl_sound (f := 146) (fn := Try.f146) (af := af146) Try.func146 (named (m := "loop.example/g00678/impl.lastOf") (by kernel_rfl) (by decide)) (by kernel_rfl) (fun xs hok => does146 xs hok)

theorem sound182 : Sound Try.prog 182 conNoLess := func_sound (C := tbNone) (kt := ktI) (hws := []) tbNone_sound (f := 182) (fn := Try.f182) (af := af182) Try.func182 (named (m := "loop.example/g00678/impl.noLess") (by kernel_rfl) (by decide)) (by kernel_rfl) (fun xs hok => does182 xs hok)

theorem sound148 : Sound Try.prog 148 conIsSentFor := func_sound (C := tbNone) (kt := ktI) (hws := []) tbNone_sound (f := 148) (fn := Try.f148) (af := af148) Try.func148 (named (m := "loop.example/g00678/impl.isSentFor") (by kernel_rfl) (by decide)) (by kernel_rfl) (fun xs hok => does148 xs hok)

theorem sound183 : Sound Try.prog 183 conSame := func_sound (C := tbNone) (kt := ktI) (hws := []) tbNone_sound (f := 183) (fn := Try.f183) (af := af183) Try.func183 (named (m := "loop.example/g00678/impl.same") (by kernel_rfl) (by decide)) (by kernel_rfl) (fun xs hok => does183 xs hok)

theorem tb67_sound : TabSound Try.prog tb67 := by
  intro f c h
  unfold tb67 at h
  split at h
  · cases h; exact sound142
  · cases h

theorem sound67 : Sound Try.prog 67 conRecsOk := func_sound (C := tb67) (kt := ktI) (hws := []) tb67_sound (f := 67) (fn := Try.f67) (af := af67) Try.func67 (named (m := "loop.example/g00678/impl.areRecs") (by kernel_rfl) (by decide)) (by kernel_rfl) (fun xs hok => does67 xs hok)

theorem tb70_sound : TabSound Try.prog tb70 := by
  intro f c h
  unfold tb70 at h
  split at h
  · cases h; exact sound61
  · cases h

theorem sound70 : Sound Try.prog 70 conRecsOk := func_sound (C := tb70) (kt := ktI) (hws := []) tb70_sound (f := 70) (fn := Try.f70) (af := af70) Try.func70 (named (m := "loop.example/g00678/spec.l12Recs") (by kernel_rfl) (by decide)) (by kernel_rfl) (fun xs hok => does70 xs hok)

theorem tb193_sound : TabSound Try.prog tb193 := by
  intro f c h
  unfold tb193 at h
  split at h
  · cases h; exact sound146
  · cases h

theorem sound193 : Sound Try.prog 193 conLast := func_sound (C := tb193) (kt := ktI) (hws := []) tb193_sound (f := 193) (fn := Try.f193) (af := af193) Try.func193 (named (m := "loop.example/g00678/impl.lifeOf") (by kernel_rfl) (by decide)) (by kernel_rfl) (fun xs hok => does193 xs hok)

theorem sound128 : Sound Try.prog 128 conLast := func_sound (C := tbNone) (kt := ktI) (hws := []) tbNone_sound (f := 128) (fn := Try.f128) (af := af128) Try.func128 (named (m := "loop.example/g00678/spec.l12Last") (by kernel_rfl) (by decide)) (by kernel_rfl) (fun xs hok => does128 xs hok)

theorem tb180_sound : TabSound Try.prog tb180 := by
  intro f c h
  unfold tb180 at h
  split at h
  · cases h; exact sound193
  · cases h

theorem sound180 : Sound Try.prog 180 conLives := func_sound (C := tb180) (kt := ktI) (hws := []) tb180_sound (f := 180) (fn := Try.f180) (af := af180) Try.func180 (named (m := "loop.example/g00678/impl.lives") (by kernel_rfl) (by decide)) (by kernel_rfl) (fun xs hok => does180 xs hok)

theorem tb171_sound : TabSound Try.prog tb171 := by
  intro f c h
  unfold tb171 at h
  split at h
  · cases h; exact sound128
  · cases h

theorem sound171 : Sound Try.prog 171 conLives := func_sound (C := tb171) (kt := ktI) (hws := []) tb171_sound (f := 171) (fn := Try.f171) (af := af171) Try.func171 (named (m := "loop.example/g00678/spec.l12Lives") (by kernel_rfl) (by decide)) (by kernel_rfl) (fun xs hok => does171 xs hok)

theorem sound181 : Sound Try.prog 181 conHasAhead := func_sound (C := tb193) (kt := ktI) (hws := []) tb193_sound (f := 181) (fn := Try.f181) (af := af181) Try.func181 (named (m := "loop.example/g00678/impl.hasAhead") (by kernel_rfl) (by decide)) (by kernel_rfl) (fun xs hok => does181 xs hok)

theorem tb184_sound : TabSound Try.prog tb184 := by
  intro f c h
  unfold tb184 at h
  split at h
  · cases h; exact sound79
  · cases h; exact sound146
  · cases h; exact sound212
  · cases h

theorem sound184 : Sound Try.prog 184 conRisen := func_sound (C := tb184) (kt := ktI) (hws := [(8, [.any, .boxed, .any, .boxed, .any, .any, .any, .boxed, .any, .any, .any, .any, .boxed, .any, .boxed, .any, .any, .any, .boxed, .pure, .boxed, .pure, .pure, .any, .any], [])]) tb184_sound (f := 184) (fn := Try.f184) (af := af184) Try.func184 (named (m := "loop.example/g00678/impl.risen") (by kernel_rfl) (by decide)) (by kernel_rfl) (fun xs hok => does184 xs hok)

theorem tb131_sound : TabSound Try.prog tb131 := by
  intro f c h
  unfold tb131 at h
  split at h
  · cases h; exact sound148
  · cases h; exact sound180
  · cases h; exact sound181
  · cases h; exact sound182
  · cases h; exact sound183
  · cases h; exact sound184
  · cases h

theorem sound131 : Sound Try.prog 131 conBreaksI := func_sound (C := tb131) (kt := ktI) (hws := [(5, [.any, .any, .any, .any, .any, .any, .any, .any, .any, .any, .boxed, .any, .any, .any], [])]) tb131_sound (f := 131) (fn := Try.f131) (af := af131) Try.func131 (named (m := "loop.example/g00678/impl.breaks") (by kernel_rfl) (by decide)) (by kernel_rfl) (fun xs hok => does131 xs hok)

theorem tb175_sound : TabSound Try.prog tb175 := by
  intro f c h
  unfold tb175 at h
  split at h
  · cases h; exact sound179
  · cases h

theorem sound175 : Sound Try.prog 175 conRise := func_sound (C := tb175) (kt := ktI) (hws := [(4, [.any, .any, .any, .any, .any, .any, .any, .any, .any, .any, .any, .any, .any, .any, .any, .any, .any, .any, .any], []), (6, [.any, .any, .any, .any, .any, .any, .any, .any, .any, .any, .any, .any, .any, .any, .any, .any, .any, .any, .any, .any, .any, .any, .any, .any, .any, .any, .any, .any, .any, .any, .any, .any, .any, .any, .any, .any, .any, .any, .any, .any, .any, .pure, .any], [])]) tb175_sound (f := 175) (fn := Try.f175) (af := af175) Try.func175 (named (m := "loop.example/g00678/spec.l12Rise") (by kernel_rfl) (by decide)) (by kernel_rfl) (fun xs hok => does175 xs hok)

theorem sound173 : Sound Try.prog 173 conTwin := func_sound (C := tbNone) (kt := ktI) (hws := [(4, [.any, .any, .any, .any, .any, .any, .any, .any, .any, .any, .any, .any, .any, .any, .any, .any, .any, .any, .any, .any, .any, .any, .any, .any], [])]) tbNone_sound (f := 173) (fn := Try.f173) (af := af173) Try.func173 (named (m := "loop.example/g00678/spec.l12Twin") (by kernel_rfl) (by decide)) (by kernel_rfl) (fun xs hok => does173 xs hok)

theorem sound174 : Sound Try.prog 174 conSent := func_sound (C := tbNone) (kt := ktI) (hws := [(4, [.any, .any, .any, .any, .any, .any, .any, .any, .any, .any, .any, .any, .any, .any, .any, .any, .any, .any, .any, .any, .any, .any, .any, .any, .any, .any, .any, .any, .any, .any, .any, .any, .any, .any, .any, .any, .any, .any, .any, .any, .any, .any, .any, .any, .any], [])]) tbNone_sound (f := 174) (fn := Try.f174) (af := af174) Try.func174 (named (m := "loop.example/g00678/spec.l12Sent") (by kernel_rfl) (by decide)) (by kernel_rfl) (fun xs hok => does174 xs hok)

theorem tb172_sound : TabSound Try.prog tb172 := by
  intro f c h
  unfold tb172 at h
  split at h
  · cases h; exact sound178
  · cases h

theorem sound172 : Sound Try.prog 172 conBorn := func_sound (C := tb172) (kt := ktI) (hws := [(4, [.any, .any, .any, .any, .any, .any, .any, .any, .any, .pure, .any, .any, .any, .any, .any, .any], [])]) tb172_sound (f := 172) (fn := Try.f172) (af := af172) Try.func172 (named (m := "loop.example/g00678/spec.l12Born") (by kernel_rfl) (by decide)) (by kernel_rfl) (fun xs hok => does172 xs hok)

theorem sound176 : Sound Try.prog 176 conKnown := func_sound (C := tb172) (kt := ktI) (hws := [(9, [.boxed, .any, .boxed, .pure, .any, .boxed, .any], [])]) tb172_sound (f := 176) (fn := Try.f176) (af := af176) Try.func176 (named (m := "loop.example/g00678/spec.l12Known") (by kernel_rfl) (by decide)) (by kernel_rfl) (fun xs hok => does176 xs hok)

theorem tb126_sound : TabSound Try.prog tb126 := by
  intro f c h
  unfold tb126 at h
  split at h
  · cases h; exact sound171
  · cases h; exact sound172
  · cases h; exact sound173
  · cases h; exact sound174
  · cases h; exact sound175
  · cases h; exact sound176
  · cases h

theorem sound126 : Sound Try.prog 126 conBreaksS := func_sound (C := tb126) (kt := ktI) (hws := [(6, [.any, .any, .any, .any, .any, .any, .any, .any, .any, .any, .boxed, .any, .any, .any], [])]) tb126_sound (f := 126) (fn := Try.f126) (af := af126) Try.func126 (named (m := "loop.example/g00678/spec.l12Breaks") (by kernel_rfl) (by decide)) (by kernel_rfl) (fun xs hok => does126 xs hok)

theorem tb133_sound : TabSound Try.prog tb133 := by
  intro f c h
  unfold tb133 at h
  split at h
  · cases h; exact sound146
  · cases h; exact sound180
  · cases h; exact sound182
  · cases h; exact sound183
  · cases h; exact sound184
  · cases h; exact sound193
  · cases h; exact sound194
  · cases h

theorem sound133 : Sound Try.prog 133 conShownI := func_sound (C := tb133) (kt := ktI) (hws := []) tb133_sound (f := 133) (fn := Try.f133) (af := af133) Try.func133 (named (m := "loop.example/g00678/impl.shown") (by kernel_rfl) (by decide)) (by kernel_rfl) (fun xs hok => does133 xs hok)

theorem tb195_sound : TabSound Try.prog tb195 := by
  intro f c h
  unfold tb195 at h
  split at h
  · cases h; exact sound128
  · cases h; exact sound171
  · cases h; exact sound172
  · cases h; exact sound173
  · cases h; exact sound175
  · cases h

theorem sound195 : Sound Try.prog 195 conShownS := func_sound (C := tb195) (kt := ktI) (hws := []) tb195_sound (f := 195) (fn := Try.f195) (af := af195) Try.func195 (named (m := "loop.example/g00678/spec.l12Shown") (by kernel_rfl) (by decide)) (by kernel_rfl) (fun xs hok => does195 xs hok)

theorem sound213 : Sound Try.prog 213 conIdxI := func_sound (C := tbNone) (kt := ktI) (hws := []) tbNone_sound (f := 213) (fn := Try.f213) (af := af213) Try.func213 (named (m := "slices.Index[[]int,int]") (by kernel_rfl) (by decide)) (by kernel_rfl) (fun xs hok => does213 xs hok)

theorem tb191_sound : TabSound Try.prog tb191 := by
  intro f c h
  unfold tb191 at h
  split at h
  · cases h; exact sound213
  · cases h

theorem sound191 : Sound Try.prog 191 conHasI := func_sound (C := tb191) (kt := ktI) (hws := []) tb191_sound (f := 191) (fn := Try.f191) (af := af191) Try.func191 (named (m := "slices.Contains[[]int,int]") (by kernel_rfl) (by decide)) (by kernel_rfl) (fun xs hok => does191 xs hok)

theorem sound177 : Sound Try.prog 177 conQuiet := func_sound (C := tbNone) (kt := ktI) (hws := [(4, [.any, .any, .any, .any, .any, .any, .any, .any, .any, .any, .any, .any, .any, .any, .any, .any, .any, .any, .any, .any], [])]) tbNone_sound (f := 177) (fn := Try.f177) (af := af177) Try.func177 (named (m := "loop.example/g00678/spec.l12Quiet") (by kernel_rfl) (by decide)) (by kernel_rfl) (fun xs hok => does177 xs hok)

theorem tb132_sound : TabSound Try.prog tb132 := by
  intro f c h
  unfold tb132 at h
  split at h
  · cases h; exact sound146
  · cases h; exact sound182
  · cases h; exact sound183
  · cases h; exact sound184
  · cases h; exact sound191
  · cases h; exact sound209
  · cases h; exact sound210
  · cases h

theorem sound132 : Sound Try.prog 132 conSpeaks := func_sound (C := tb132) (kt := ktI) (hws := [(1, [.any, .any, .still, .still, .any, .any, .still, .still, .any, .any, .any, .any], [([0, 1, 2, 3, 4, 5, 6, 7, 8, 9, 10, 11], [(8, 9)]), ([0, 1, 2, 3, 4, 5, 6, 7, 9, 8, 10, 11], [(9, 8)])]), (10, [.any, .boxed, .any, .boxed, .any, .any, .any, .boxed, .any, .any, .any, .any, .any, .any, .any, .any, .any, .boxed, .any, .boxed, .any, .boxed, .any, .any, .any], [([0, 1, 2, 3, 4, 5, 6, 7, 8, 9, 10, 11, 12, 13, 14, 15, 16, 17, 18, 19, 20, 21, 22, 23, 24], [(20, 21)]), ([0, 1, 2, 3, 4, 5, 6, 7, 8, 9, 10, 11, 12, 13, 14, 15, 16, 17, 18, 19, 21, 20, 22, 23, 24], [(21, 20)])]), (12, [.boxed, .any, .boxed, .any, .any], [([0, 1, 2, 3, 4], [(1, 2)]), ([0, 2, 1, 3, 4], [(2, 1)])])]) tb132_sound (f := 132) (fn := Try.f132) (af := af132) Try.func132 (named (m := "loop.example/g00678/impl.speaks") (by kernel_rfl) (by decide)) (by kernel_rfl) (fun xs hok => does132 xs hok)

theorem tb127_sound : TabSound Try.prog tb127 := by
  intro f c h
  unfold tb127 at h
  split at h
  · cases h; exact sound128
  · cases h; exact sound177
  · cases h; exact sound178
  · cases h; exact sound179
  · cases h

theorem sound127 : Sound Try.prog 127 conFirst := func_sound (C := tb127) (kt := ktI) (hws := [(1, [.any, .any, .still, .still, .any, .any, .still, .still, .any, .any, .any, .any], [([0, 1, 2, 3, 4, 5, 6, 7, 8, 9, 10, 11], [(8, 9)]), ([0, 1, 2, 3, 4, 5, 6, 7, 9, 8, 10, 11], [(9, 8)])]), (8, [.any, .boxed, .any, .boxed, .any, .any, .any, .boxed, .any, .any, .any, .any, .any, .any, .pure, .any, .any, .boxed, .any, .boxed, .pure, .any, .boxed, .any, .any, .any], [])]) tb127_sound (f := 127) (fn := Try.f127) (af := af127) Try.func127 (named (m := "loop.example/g00678/spec.l12First") (by kernel_rfl) (by decide)) (by kernel_rfl) (fun xs hok => does127 xs hok)

theorem tb55_sound : TabSound Try.prog tb55 := by
  intro f c h
  unfold tb55 at h
  split at h
  · cases h; exact sound67
  · cases h; exact sound129
  · cases h; exact sound130
  · cases h; exact sound131
  · cases h; exact sound132
  · cases h; exact sound133
  · cases h

theorem sound55 : Sound Try.prog 55 conShows := func_sound (C := tb55) (kt := ktI) (hws := [(13, [.any, .any, .any, .any, .any, .any, .any, .any, .any, .any, .any, .any, .any, .any, .pure, .any, .any], [])]) tb55_sound (f := 55) (fn := Try.f55) (af := af55) Try.func55 (named (m := "loop.example/g00678/impl.Shows") (by kernel_rfl) (by decide)) (by kernel_rfl) (fun xs hok => does55 xs hok)

theorem tb53_sound : TabSound Try.prog tb53 := by
  intro f c h
  unfold tb53 at h
  split at h
  · cases h; exact sound70
  · cases h; exact sound125
  · cases h; exact sound126
  · cases h; exact sound127
  · cases h; exact sound128
  · cases h

theorem sound53 : Sound Try.prog 53 conShows := func_sound (C := tb53) (kt := ktI) (hws := [(6, [.any, .any, .any, .any, .any, .any, .any, .pure, .any, .any, .any, .any, .any, .any, .any, .any, .any, .any, .any, .any, .any, .any, .any, .any, .any], [])]) tb53_sound (f := 53) (fn := Try.f53) (af := af53) Try.func53 (named (m := "loop.example/g00678/spec.Shows") (by kernel_rfl) (by decide)) (by kernel_rfl) (fun xs hok => does53 xs hok)

theorem tb11_sound : TabSound Try.prog tb11 := by
  intro f c h
  unfold tb11 at h
  split at h
  · cases h; exact sound16
  · cases h; exact sound18
  · cases h; exact sound20
  · cases h; exact sound23
  · cases h; exact sound53
  · cases h; exact sound54
  · cases h; exact sound55
  · cases h

theorem sound11 : Sound Try.prog 11 conLawS := func_sound (C := tb11) (kt := ktI) (hws := []) tb11_sound (f := 11) (fn := Try.f11) (af := af11) Try.func11 (named (m := "loop.example/g00678/laws.FnExactShows") (by kernel_rfl) (by decide)) (by kernel_rfl) (fun xs hok => does11 xs hok)

end Go.Proofs.Ytnghlmogcbmlfaa
