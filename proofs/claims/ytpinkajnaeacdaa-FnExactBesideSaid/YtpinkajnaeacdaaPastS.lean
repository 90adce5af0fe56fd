/- What the program says of which place is ahead of which is what the specification says, for all arguments; no condition. -/
import Derived.Test.YtpinkajnaeacdaaPastL
import Derived.Test.YtpinkajnaeacdaaRows
namespace Go.Proofs.Ytpinkajnaeacdaa
set_option linter.unusedVariables false
set_option linter.unusedSimpArgs false
set_option linter.unnecessarySimpa false

theorem named {n m : String} (h : n = m) (hm : m ≠ "runtime.NumGoroutine") : n ≠ "runtime.NumGoroutine" := h ▸ hm

theorem own_knob : ownKnob Try.prog.godebug = none := by kernel_rfl
theorem laid_out : laidOutB Try.prog = true := by kernel_rfl

def ktI : KT := [(2, .int), (3, .int), (4, .bool), (5, .u8), (9, .str), (22, .recs), (25, .recs), (30, .rcd), (32, .rcd), (37, .ints), (64, .bools), (80, .fact)]

theorem tbNone_sound : TabSound Try.prog tbNone := fun _ _ h => by cases h

theorem sound47 : Sound Try.prog 47 conToI := func_sound (C := tbNone) (kt := ktI) (hws := []) tbNone_sound (f := 47) (fn := Try.f47) (af := af47) Try.func47 (named (m := "loop.example/g00678/laws.toInt64S") (by kernel_rfl) (by decide)) (by kernel_rfl) (fun xs hok => does47 xs hok)

theorem sound29 : Sound Try.prog 29 conEqI := func_sound (C := tbNone) (kt := ktI) (hws := [(6, [.any, .any, .any, .any, .any, .any, .any, .any, .any])]) tbNone_sound (f := 29) (fn := Try.f29) (af := af29) Try.func29 (named (m := "loop.example/g00678/laws.eqInt64S") (by kernel_rfl) (by decide)) (by kernel_rfl) (fun xs hok => does29 xs hok)

theorem sound31 : Sound Try.prog 31 conMarkI := func_sound (C := tbNone) (kt := ktI) (hws := []) tbNone_sound (f := 31) (fn := Try.f31) (af := af31) Try.func31 (named (m := "loop.example/g00678/laws.markInt64S") (by kernel_rfl) (by decide)) (by kernel_rfl) (fun xs hok => does31 xs hok)

theorem sound32 : Sound Try.prog 32 conHeldI := func_sound (C := tbNone) (kt := ktI) (hws := []) tbNone_sound (f := 32) (fn := Try.f32) (af := af32) Try.func32 (named (m := "loop.example/g00678/laws.heldInt64S") (by kernel_rfl) (by decide)) (by kernel_rfl) (fun xs hok => does32 xs hok)

theorem sound76 : Sound Try.prog 76 conIn := func_sound (C := tbNone) (kt := ktI) (hws := []) tbNone_sound (f := 76) (fn := Try.f76) (af := af76) Try.func76 (named (m := "loop.example/g00678/spec.l02Is") (by kernel_rfl) (by decide)) (by kernel_rfl) (fun xs hok => does76 xs hok)

theorem sound88 : Sound Try.prog 88 conIn := func_sound (C := tbNone) (kt := ktI) (hws := []) tbNone_sound (f := 88) (fn := Try.f88) (af := af88) Try.func88 (named (m := "loop.example/g00678/impl.within") (by kernel_rfl) (by decide)) (by kernel_rfl) (fun xs hok => does88 xs hok)

theorem tb95_sound : TabSound Try.prog tb95 := by
  intro f c h
  unfold tb95 at h
  split at h
  · cases h; exact sound76
  · cases h

theorem sound95 : Sound Try.prog 95 conTime := func_sound (C := tb95) (kt := ktI) (hws := []) tb95_sound (f := 95) (fn := Try.f95) (af := af95) Try.func95 (named (m := "loop.example/g00678/spec.l03Time") (by kernel_rfl) (by decide)) (by kernel_rfl) (fun xs hok => does95 xs hok)

theorem tb99_sound : TabSound Try.prog tb99 := by
  intro f c h
  unfold tb99 at h
  split at h
  · cases h; exact sound88
  · cases h

theorem sound99 : Sound Try.prog 99 conTime := func_sound (C := tb99) (kt := ktI) (hws := []) tb99_sound (f := 99) (fn := Try.f99) (af := af99) Try.func99 (named (m := "loop.example/g00678/impl.isTime") (by kernel_rfl) (by decide)) (by kernel_rfl) (fun xs hok => does99 xs hok)

theorem sound80 : Sound Try.prog 80 conNode := func_sound (C := tb95) (kt := ktI) (hws := []) tb95_sound (f := 80) (fn := Try.f80) (af := af80) Try.func80 (named (m := "loop.example/g00678/spec.l04Node") (by kernel_rfl) (by decide)) (by kernel_rfl) (fun xs hok => does80 xs hok)

theorem sound82 : Sound Try.prog 82 conNode := func_sound (C := tb99) (kt := ktI) (hws := []) tb99_sound (f := 82) (fn := Try.f82) (af := af82) Try.func82 (named (m := "loop.example/g00678/impl.isNode") (by kernel_rfl) (by decide)) (by kernel_rfl) (fun xs hok => does82 xs hok)

theorem sound21 : Sound Try.prog 21 conToRec := func_sound (C := tbNone) (kt := ktI) (hws := []) tbNone_sound (f := 21) (fn := Try.f21) (af := af21) Try.func21 (named (m := "loop.example/g00678/laws.toRec") (by kernel_rfl) (by decide)) (by kernel_rfl) (fun xs hok => does21 xs hok)

theorem sound58 : Sound Try.prog 58 conEqRec := func_sound (C := tbNone) (kt := ktI) (hws := []) tbNone_sound (f := 58) (fn := Try.f58) (af := af58) Try.func58 (named (m := "loop.example/g00678/laws.eqRec") (by kernel_rfl) (by decide)) (by kernel_rfl) (fun xs hok => does58 xs hok)

theorem tb17_sound : TabSound Try.prog tb17 := by
  intro f c h
  unfold tb17 at h
  split at h
  · cases h; exact sound21
  · cases h

theorem sound17 : Sound Try.prog 17 conToRecS := func_sound (C := tb17) (kt := ktI) (hws := []) tb17_sound (f := 17) (fn := Try.f17) (af := af17) Try.func17 (named (m := "loop.example/g00678/laws.toRecS") (by kernel_rfl) (by decide)) (by kernel_rfl) (fun xs hok => does17 xs hok)

theorem tb19_sound : TabSound Try.prog tb19 := by
  intro f c h
  unfold tb19 at h
  split at h
  · cases h; exact sound58
  · cases h

theorem sound19 : Sound Try.prog 19 conEqRecS := func_sound (C := tb19) (kt := ktI) (hws := [(6, [.any, .any, .any, .any, .any, .any, .any, .any, .pure, .any])]) tb19_sound (f := 19) (fn := Try.f19) (af := af19) Try.func19 (named (m := "loop.example/g00678/laws.eqRecS") (by kernel_rfl) (by decide)) (by kernel_rfl) (fun xs hok => does19 xs hok)

theorem sound15 : Sound Try.prog 15 conSzRecS := func_sound (C := tbNone) (kt := ktI) (hws := []) tbNone_sound (f := 15) (fn := Try.f15) (af := af15) Try.func15 (named (m := "loop.example/g00678/laws.szRecS") (by kernel_rfl) (by decide)) (by kernel_rfl) (fun xs hok => does15 xs hok)

theorem sound30 : Sound Try.prog 30 conMarkRecS := func_sound (C := tbNone) (kt := ktI) (hws := []) tbNone_sound (f := 30) (fn := Try.f30) (af := af30) Try.func30 (named (m := "loop.example/g00678/laws.markRecS") (by kernel_rfl) (by decide)) (by kernel_rfl) (fun xs hok => does30 xs hok)

theorem tb100_sound : TabSound Try.prog tb100 := by
  intro f c h
  unfold tb100 at h
  split at h
  · cases h; exact sound82
  · cases h; exact sound88
  · cases h; exact sound99
  · cases h

theorem sound100 : Sound Try.prog 100 conFact := func_sound (C := tb100) (kt := ktI) (hws := []) tb100_sound (f := 100) (fn := Try.f100) (af := af100) Try.func100 (named (m := "loop.example/g00678/impl.FactRight") (by kernel_rfl) (by decide)) (by kernel_rfl) (fun xs hok => does100 xs hok)

theorem tb59_sound : TabSound Try.prog tb59 := by
  intro f c h
  unfold tb59 at h
  split at h
  · cases h; exact sound76
  · cases h; exact sound80
  · cases h; exact sound95
  · cases h

theorem sound59 : Sound Try.prog 59 conRecOk := func_sound (C := tb59) (kt := ktI) (hws := []) tb59_sound (f := 59) (fn := Try.f59) (af := af59) Try.func59 (named (m := "loop.example/g00678/spec.RecRight") (by kernel_rfl) (by decide)) (by kernel_rfl) (fun xs hok => does59 xs hok)

theorem tb61_sound : TabSound Try.prog tb61 := by
  intro f c h
  unfold tb61 at h
  split at h
  · cases h; exact sound82
  · cases h; exact sound99
  · cases h; exact sound100
  · cases h

theorem sound61 : Sound Try.prog 61 conRecOk := func_sound (C := tb61) (kt := ktI) (hws := []) tb61_sound (f := 61) (fn := Try.f61) (af := af61) Try.func61 (named (m := "loop.example/g00678/impl.RecRight") (by kernel_rfl) (by decide)) (by kernel_rfl) (fun xs hok => does61 xs hok)

theorem sound143 : Sound Try.prog 143 conIsLife := func_sound (C := tbNone) (kt := ktI) (hws := []) tbNone_sound (f := 143) (fn := Try.f143) (af := af143) Try.func143 (named (m := "loop.example/g00678/impl.isLife") (by kernel_rfl) (by decide)) (by kernel_rfl) (fun xs hok => does143 xs hok)

theorem tb93_sound : TabSound Try.prog tb93 := by
  intro f c h
  unfold tb93 at h
  split at h
  · cases h; exact sound61
  · cases h

theorem sound93 : Sound Try.prog 93 conCl93 := func_sound (C := tb93) (kt := ktI) (hws := []) tb93_sound (f := 93) (fn := Try.f93) (af := af93) Try.func93 (named (m := "loop.example/g00678/impl.areRecs$1") (by kernel_rfl) (by decide)) (by kernel_rfl) (fun xs hok => does93 xs hok)

theorem sound57 : Sound Try.prog 57 conCl57 := func_sound (C := tbNone) (kt := ktI) (hws := []) tbNone_sound (f := 57) (fn := Try.f57) (af := af57) Try.func57 (named (m := "loop.example/g00678/impl.Answered$1") (by kernel_rfl) (by decide)) (by kernel_rfl) (fun xs hok => does57 xs hok)

theorem tb142_sound : TabSound Try.prog tb142 := by
  intro f c h
  unfold tb142 at h
  split at h
  · cases h; exact sound143
  · cases h

theorem sound142 : Sound Try.prog 142 conCl142 := func_sound (C := tb142) (kt := ktI) (hws := []) tb142_sound (f := 142) (fn := Try.f142) (af := af142) Try.func142 (named (m := "loop.example/g00678/impl.lifeOf$1") (by kernel_rfl) (by decide)) (by kernel_rfl) (fun xs hok => does142 xs hok)

theorem sound109 : Sound Try.prog 109 conCl109 := func_sound (C := tbNone) (kt := ktI) (hws := []) tbNone_sound (f := 109) (fn := Try.f109) (af := af109) Try.func109 (named (m := "loop.example/g00678/impl.directly$1") (by kernel_rfl) (by decide)) (by kernel_rfl) (fun xs hok => does109 xs hok)

theorem sound144 : Sound Try.prog 144 conCl144 := func_sound (C := tbNone) (kt := ktI) (hws := []) tbNone_sound (f := 144) (fn := Try.f144) (af := af144) Try.func144 (named (m := "loop.example/g00678/impl.isSentFor$1") (by kernel_rfl) (by decide)) (by kernel_rfl) (fun xs hok => does144 xs hok)

theorem tbCl_sound : TabSound Try.prog tbCl := by
  intro f c h
  unfold tbCl at h
  split at h
  · cases h; exact sound57
  · cases h; exact sound93
  · cases h; exact sound109
  · cases h; exact sound142
  · cases h; exact sound144
  · cases h

theorem sound94 : Sound Try.prog 94 conIndexR := func_sound (C := tbCl) (kt := ktI) (hws := []) tbCl_sound (f := 94) (fn := Try.f94) (af := af94) Try.func94 (named (m := "slices.IndexFunc[[]loop.example/g00678/impl.Rec,loop.example/g00678/impl.Rec]") (by kernel_rfl) (by decide)) (by kernel_rfl) (fun xs hok => does94 xs hok)

theorem tb56_sound : TabSound Try.prog tb56 := by
  intro f c h
  unfold tb56 at h
  split at h
  · cases h; exact sound94
  · cases h

theorem sound56 : Sound Try.prog 56 conContainsR := func_sound (C := tb56) (kt := ktI) (hws := []) tb56_sound (f := 56) (fn := Try.f56) (af := af56) Try.func56 (named (m := "slices.ContainsFunc[[]loop.example/g00678/impl.Rec,loop.example/g00678/impl.Rec]") (by kernel_rfl) (by decide)) (by kernel_rfl) (fun xs hok => does56 xs hok)

theorem sound108 : Sound Try.prog 108 conLastOf := func_sound (C := tbCl) (kt := ktI) (hws := []) tbCl_sound (f := 108) (fn := Try.f108) (af := af108) Try.func108 (named (m := "loop.example/g00678/impl.lastOf") (by kernel_rfl) (by decide)) (by kernel_rfl) (fun xs hok => does108 xs hok)

theorem tb55_sound : TabSound Try.prog tb55 := by
  intro f c h
  unfold tb55 at h
  split at h
  · cases h; exact sound56
  · cases h

theorem sound55 : Sound Try.prog 55 conRecsOk := func_sound (C := tb55) (kt := ktI) (hws := []) tb55_sound (f := 55) (fn := Try.f55) (af := af55) Try.func55 (named (m := "loop.example/g00678/impl.areRecs") (by kernel_rfl) (by decide)) (by kernel_rfl) (fun xs hok => does55 xs hok)

theorem tb54_sound : TabSound Try.prog tb54 := by
  intro f c h
  unfold tb54 at h
  split at h
  · cases h; exact sound59
  · cases h

theorem sound54 : Sound Try.prog 54 conRecsOk := func_sound (C := tb54) (kt := ktI) (hws := []) tb54_sound (f := 54) (fn := Try.f54) (af := af54) Try.func54 (named (m := "loop.example/g00678/spec.l12Recs") (by kernel_rfl) (by decide)) (by kernel_rfl) (fun xs hok => does54 xs hok)

theorem tb106_sound : TabSound Try.prog tb106 := by
  intro f c h
  unfold tb106 at h
  split at h
  · cases h; exact sound108
  · cases h

theorem sound106 : Sound Try.prog 106 conLast := func_sound (C := tb106) (kt := ktI) (hws := []) tb106_sound (f := 106) (fn := Try.f106) (af := af106) Try.func106 (named (m := "loop.example/g00678/impl.lifeOf") (by kernel_rfl) (by decide)) (by kernel_rfl) (fun xs hok => does106 xs hok)

theorem sound87 : Sound Try.prog 87 conLast := func_sound (C := tbNone) (kt := ktI) (hws := []) tbNone_sound (f := 87) (fn := Try.f87) (af := af87) Try.func87 (named (m := "loop.example/g00678/spec.l12Last") (by kernel_rfl) (by decide)) (by kernel_rfl) (fun xs hok => does87 xs hok)

theorem tb70_sound : TabSound Try.prog tb70 := by
  intro f c h
  unfold tb70 at h
  split at h
  · cases h; exact sound106
  · cases h

theorem sound70 : Sound Try.prog 70 conLives := func_sound (C := tb70) (kt := ktI) (hws := []) tb70_sound (f := 70) (fn := Try.f70) (af := af70) Try.func70 (named (m := "loop.example/g00678/impl.lives") (by kernel_rfl) (by decide)) (by kernel_rfl) (fun xs hok => does70 xs hok)

theorem tb69_sound : TabSound Try.prog tb69 := by
  intro f c h
  unfold tb69 at h
  split at h
  · cases h; exact sound87
  · cases h

theorem sound69 : Sound Try.prog 69 conLives := func_sound (C := tb69) (kt := ktI) (hws := []) tb69_sound (f := 69) (fn := Try.f69) (af := af69) Try.func69 (named (m := "loop.example/g00678/spec.l12Lives") (by kernel_rfl) (by decide)) (by kernel_rfl) (fun xs hok => does69 xs hok)

theorem sound110 : Sound Try.prog 110 conIsSentFor := func_sound (C := tbNone) (kt := ktI) (hws := []) tbNone_sound (f := 110) (fn := Try.f110) (af := af110) Try.func110 (named (m := "loop.example/g00678/impl.isSentFor") (by kernel_rfl) (by decide)) (by kernel_rfl) (fun xs hok => does110 xs hok)

theorem tb74_sound : TabSound Try.prog tb74 := by
  intro f c h
  unfold tb74 at h
  split at h
  · cases h; exact sound108
  · cases h; exact sound110
  · cases h

theorem sound74 : Sound Try.prog 74 conDir := func_sound (C := tb74) (kt := ktI) (hws := []) tb74_sound (f := 74) (fn := Try.f74) (af := af74) Try.func74 (named (m := "loop.example/g00678/impl.directly") (by kernel_rfl) (by decide)) (by kernel_rfl) (fun xs hok => does74 xs hok)

theorem sound103 : Sound Try.prog 103 conDir := func_sound (C := tbNone) (kt := ktI) (hws := [(5, [.any, .any, .any, .any, .any, .any, .any, .any, .any, .any, .any]), (10, [.any, .any, .any, .any, .any, .any, .any, .any, .any, .any, .any, .any, .any, .any, .any, .any, .any, .any, .any, .any, .any, .any, .any, .any, .any, .any, .any, .any, .any, .any, .any, .any, .any, .any, .any, .any, .any, .any, .any, .any, .any, .any, .any, .any, .any])]) tbNone_sound (f := 103) (fn := Try.f103) (af := af103) Try.func103 (named (m := "loop.example/g00678/spec.l15Direct") (by kernel_rfl) (by decide)) (by kernel_rfl) (fun xs hok => does103 xs hok)

theorem tb68_sound : TabSound Try.prog tb68 := by
  intro f c h
  unfold tb68 at h
  split at h
  · cases h; exact sound74
  · cases h

theorem sound68 : Sound Try.prog 68 conPasts := func_sound (C := tb68) (kt := ktI) (hws := []) tb68_sound (f := 68) (fn := Try.f68) (af := af68) Try.func68 (named (m := "loop.example/g00678/impl.pasts") (by kernel_rfl) (by decide)) (by kernel_rfl) (fun xs hok => does68 xs hok)

theorem tb66_sound : TabSound Try.prog tb66 := by
  intro f c h
  unfold tb66 at h
  split at h
  · cases h; exact sound103
  · cases h

theorem sound66 : Sound Try.prog 66 conPast := func_sound (C := tb66) (kt := ktI) (hws := []) tb66_sound (f := 66) (fn := Try.f66) (af := af66) Try.func66 (named (m := "loop.example/g00678/spec.l15Past") (by kernel_rfl) (by decide)) (by kernel_rfl) (fun xs hok => does66 xs hok)

theorem sound65 : Sound Try.prog 65 conPlace := func_sound (C := tb95) (kt := ktI) (hws := []) tb95_sound (f := 65) (fn := Try.f65) (af := af65) Try.func65 (named (m := "loop.example/g00678/spec.l15Place") (by kernel_rfl) (by decide)) (by kernel_rfl) (fun xs hok => does65 xs hok)

theorem sound105 : Sound Try.prog 105 conNoPl := func_sound (C := tb99) (kt := ktI) (hws := []) tb99_sound (f := 105) (fn := Try.f105) (af := af105) Try.func105 (named (m := "loop.example/g00678/impl.arePlaces$1") (by kernel_rfl) (by decide)) (by kernel_rfl) (fun xs hok => does105 xs hok)

theorem tbCN_sound : TabSound Try.prog tbCN := by
  intro f c h
  unfold tbCN at h
  split at h
  · cases h; exact sound105
  · cases h

theorem sound141 : Sound Try.prog 141 conIndexN := func_sound (C := tbCN) (kt := ktI) (hws := []) tbCN_sound (f := 141) (fn := Try.f141) (af := af141) Try.func141 (named (m := "slices.IndexFunc[[]int64,int64]") (by kernel_rfl) (by decide)) (by kernel_rfl) (fun xs hok => does141 xs hok)

theorem tb104_sound : TabSound Try.prog tb104 := by
  intro f c h
  unfold tb104 at h
  split at h
  · cases h; exact sound141
  · cases h

theorem sound104 : Sound Try.prog 104 conContainsN := func_sound (C := tb104) (kt := ktI) (hws := []) tb104_sound (f := 104) (fn := Try.f104) (af := af104) Try.func104 (named (m := "slices.ContainsFunc[[]int64,int64]") (by kernel_rfl) (by decide)) (by kernel_rfl) (fun xs hok => does104 xs hok)

theorem tb67_sound : TabSound Try.prog tb67 := by
  intro f c h
  unfold tb67 at h
  split at h
  · cases h; exact sound55
  · cases h; exact sound104
  · cases h

theorem sound67 : Sound Try.prog 67 conArePl := func_sound (C := tb67) (kt := ktI) (hws := []) tb67_sound (f := 67) (fn := Try.f67) (af := af67) Try.func67 (named (m := "loop.example/g00678/impl.arePlaces") (by kernel_rfl) (by decide)) (by kernel_rfl) (fun xs hok => does67 xs hok)

theorem tb24_sound : TabSound Try.prog tb24 := by
  intro f c h
  unfold tb24 at h
  split at h
  · cases h; exact sound67
  · cases h; exact sound68
  · cases h

theorem sound24 : Sound Try.prog 24 conAhead := func_sound (C := tb24) (kt := ktI) (hws := []) tb24_sound (f := 24) (fn := Try.f24) (af := af24) Try.func24 (named (m := "loop.example/g00678/impl.Ahead") (by kernel_rfl) (by decide)) (by kernel_rfl) (fun xs hok => does24 xs hok)

theorem tb23_sound : TabSound Try.prog tb23 := by
  intro f c h
  unfold tb23 at h
  split at h
  · cases h; exact sound54
  · cases h; exact sound65
  · cases h; exact sound66
  · cases h

theorem sound23 : Sound Try.prog 23 conAhead := func_sound (C := tb23) (kt := ktI) (hws := []) tb23_sound (f := 23) (fn := Try.f23) (af := af23) Try.func23 (named (m := "loop.example/g00678/spec.Ahead") (by kernel_rfl) (by decide)) (by kernel_rfl) (fun xs hok => does23 xs hok)

theorem sound26 : Sound Try.prog 26 conBeside := func_sound (C := tb24) (kt := ktI) (hws := []) tb24_sound (f := 26) (fn := Try.f26) (af := af26) Try.func26 (named (m := "loop.example/g00678/impl.Beside") (by kernel_rfl) (by decide)) (by kernel_rfl) (fun xs hok => does26 xs hok)

theorem sound25 : Sound Try.prog 25 conBeside := func_sound (C := tb23) (kt := ktI) (hws := []) tb23_sound (f := 25) (fn := Try.f25) (af := af25) Try.func25 (named (m := "loop.example/g00678/spec.Beside") (by kernel_rfl) (by decide)) (by kernel_rfl) (fun xs hok => does25 xs hok)

theorem sound38 : Sound Try.prog 38 conPastOf := func_sound (C := tb24) (kt := ktI) (hws := []) tb24_sound (f := 38) (fn := Try.f38) (af := af38) Try.func38 (named (m := "loop.example/g00678/impl.PastOf") (by kernel_rfl) (by decide)) (by kernel_rfl) (fun xs hok => does38 xs hok)

theorem sound37 : Sound Try.prog 37 conPastOf := func_sound (C := tb23) (kt := ktI) (hws := []) tb23_sound (f := 37) (fn := Try.f37) (af := af37) Try.func37 (named (m := "loop.example/g00678/spec.PastOf") (by kernel_rfl) (by decide)) (by kernel_rfl) (fun xs hok => does37 xs hok)

theorem tb5_sound : TabSound Try.prog tb5 := by
  intro f c h
  unfold tb5 at h
  split at h
  · cases h; exact sound15
  · cases h; exact sound17
  · cases h; exact sound19
  · cases h; exact sound23
  · cases h; exact sound24
  · cases h

theorem sound5 : Sound Try.prog 5 conLawRII := func_sound (C := tb5) (kt := ktI) (hws := []) tb5_sound (f := 5) (fn := Try.f5) (af := af5) Try.func5 (named (m := "loop.example/g00678/laws.FnExactAhead") (by kernel_rfl) (by decide)) (by kernel_rfl) (fun xs hok => does5 xs hok)

theorem tb6_sound : TabSound Try.prog tb6 := by
  intro f c h
  unfold tb6 at h
  split at h
  · cases h; exact sound15
  · cases h; exact sound17
  · cases h; exact sound19
  · cases h; exact sound25
  · cases h; exact sound26
  · cases h

theorem sound6 : Sound Try.prog 6 conLawRII := func_sound (C := tb6) (kt := ktI) (hws := []) tb6_sound (f := 6) (fn := Try.f6) (af := af6) Try.func6 (named (m := "loop.example/g00678/laws.FnExactBeside") (by kernel_rfl) (by decide)) (by kernel_rfl) (fun xs hok => does6 xs hok)

theorem tb10_sound : TabSound Try.prog tb10 := by
  intro f c h
  unfold tb10 at h
  split at h
  · cases h; exact sound15
  · cases h; exact sound17
  · cases h; exact sound19
  · cases h; exact sound29
  · cases h; exact sound30
  · cases h; exact sound31
  · cases h; exact sound32
  · cases h; exact sound37
  · cases h; exact sound38
  · cases h

theorem sound10 : Sound Try.prog 10 conLawRI := func_sound (C := tb10) (kt := ktI) (hws := []) tb10_sound (f := 10) (fn := Try.f10) (af := af10) Try.func10 (named (m := "loop.example/g00678/laws.FnExactPastOf") (by kernel_rfl) (by decide)) (by kernel_rfl) (fun xs hok => does10 xs hok)

end Go.Proofs.Ytpinkajnaeacdaa
