/- What the program judges is what the specification judges, for all arguments; no condition. -/
import Derived.Test.YtpinkajnaeacdaaJudL
import Derived.Test.YtpinkajnaeacdaaRows
namespace Go.Proofs.Ytpinkajnaeacdaa
set_option linter.unusedVariables false
set_option linter.unusedSimpArgs false
set_option linter.unnecessarySimpa false

theorem named {n m : String} (h : n = m) (hm : m ≠ "runtime.NumGoroutine") : n ≠ "runtime.NumGoroutine" := h ▸ hm

theorem own_knob : ownKnob Try.prog.godebug = none := by kernel_rfl
theorem laid_out : laidOutB Try.prog = true := by kernel_rfl

def ktI : KT := [(2, .int), (3, .int), (4, .bool), (5, .u8), (9, .str), (22, .recs), (25, .recs), (30, .rcd), (32, .rcd), (37, .ints), (64, .bools), (80, .fact)]

theorem tbNone_sound : TabSound Try.prog tbNone := fun _ _ h => by cases h

theorem sound47 : Sound Try.prog 47 conToI := func_sound (C := tbNone) (kt := ktI) (hws := []) tbNone_sound (f := 47) (fn := Try.f47) (af := af47) Try.func47 (named (m := "loop.example/g00678/laws.toInt64S") (by kernel_rfl) (by decide)) (by kernel_rfl) (fun xs hok => does47 xs hok)

theorem sound29 : Sound Try.prog 29 conEqI := func_sound (C := tbNone) (kt := ktI) (hws := [(6, [.any, .any, .any, .any, .any, .any, .any, .any, .any])]) tbNone_sound (f := 29) (fn := Try.f29) (af := af29) Try.func29 (named (m := "loop.example/g00678/laws.eqInt64S") (by kernel_rfl) (by decide)) (by kernel_rfl) (fun xs hok => does29 xs hok)

theorem sound31 : Sound Try.prog 31 conMarkI := func_sound (C := tbNone) (kt := ktI) (hws := []) tbNone_sound (f := 31) (fn := Try.f31) (af := af31) Try.func31 (named (m := "loop.example/g00678/laws.markInt64S") (by kernel_rfl) (by decide)) (by kernel_rfl) (fun xs hok => does31 xs hok)

theorem sound32 : Sound Try.prog 32 conHeldI := func_sound (C := tbNone) (kt := ktI) (hws := []) tbNone_sound (f := 32) (fn := Try.f32) (af := af32) Try.func32 (named (m := "loop.example/g00678/laws.heldInt64S") (by kernel_rfl) (by decide)) (by kernel_rfl) (fun xs hok => does32 xs hok)

theorem sound76 : Sound Try.prog 76 conIn := func_sound (C := tbNone) (kt := ktI) (hws := []) tbNone_sound (f := 76) (fn := Try.f76) (af := af76) Try.func76 (named (m := "loop.example/g00678/spec.l02Is") (by kernel_rfl) (by decide)) (by kernel_rfl) (fun xs hok => does76 xs hok)

theorem sound88 : Sound Try.prog 88 conIn := func_sound (C := tbNone) (kt := ktI) (hws := []) tbNone_sound (f := 88) (fn := Try.f88) (af := af88) Try.func88 (named (m := "loop.example/g00678/impl.within") (by kernel_rfl) (by decide)) (by kernel_rfl) (fun xs hok => does88 xs hok)

theorem tb95_sound : TabSound Try.prog tb95 := by
  intro f c h
  unfold tb95 at h
  split at h
  · cases h; exact sound76
  · cases h

theorem sound95 : Sound Try.prog 95 conTime := func_sound (C := tb95) (kt := ktI) (hws := []) tb95_sound (f := 95) (fn := Try.f95) (af := af95) Try.func95 (named (m := "loop.example/g00678/spec.l03Time") (by kernel_rfl) (by decide)) (by kernel_rfl) (fun xs hok => does95 xs hok)

theorem tb99_sound : TabSound Try.prog tb99 := by
  intro f c h
  unfold tb99 at h
  split at h
  · cases h; exact sound88
  · cases h

theorem sound99 : Sound Try.prog 99 conTime := func_sound (C := tb99) (kt := ktI) (hws := []) tb99_sound (f := 99) (fn := Try.f99) (af := af99) Try.func99 (named (m := "loop.example/g00678/impl.isTime") (by kernel_rfl) (by decide)) (by kernel_rfl) (fun xs hok => does99 xs hok)

theorem sound80 : Sound Try.prog 80 conNode := func_sound (C := tb95) (kt := ktI) (hws := []) tb95_sound (f := 80) (fn := Try.f80) (af := af80) Try.func80 (named (m := "loop.example/g00678/spec.l04Node") (by kernel_rfl) (by decide)) (by kernel_rfl) (fun xs hok => does80 xs hok)

theorem sound82 : Sound Try.prog 82 conNode := func_sound (C := tb99) (kt := ktI) (hws := []) tb99_sound (f := 82) (fn := Try.f82) (af := af82) Try.func82 (named (m := "loop.example/g00678/impl.isNode") (by kernel_rfl) (by decide)) (by kernel_rfl) (fun xs hok => does82 xs hok)

theorem sound21 : Sound Try.prog 21 conToRec := func_sound (C := tbNone) (kt := ktI) (hws := []) tbNone_sound (f := 21) (fn := Try.f21) (af := af21) Try.func21 (named (m := "loop.example/g00678/laws.toRec") (by kernel_rfl) (by decide)) (by kernel_rfl) (fun xs hok => does21 xs hok)

theorem sound58 : Sound Try.prog 58 conEqRec := func_sound (C := tbNone) (kt := ktI) (hws := []) tbNone_sound (f := 58) (fn := Try.f58) (af := af58) Try.func58 (named (m := "loop.example/g00678/laws.eqRec") (by kernel_rfl) (by decide)) (by kernel_rfl) (fun xs hok => does58 xs hok)

theorem tb17_sound : TabSound Try.prog tb17 := by
  intro f c h
  unfold tb17 at h
  split at h
  · cases h; exact sound21
  · cases h

theorem sound17 : Sound Try.prog 17 conToRecS := func_sound (C := tb17) (kt := ktI) (hws := []) tb17_sound (f := 17) (fn := Try.f17) (af := af17) Try.func17 (named (m := "loop.example/g00678/laws.toRecS") (by kernel_rfl) (by decide)) (by kernel_rfl) (fun xs hok => does17 xs hok)

theorem tb19_sound : TabSound Try.prog tb19 := by
  intro f c h
  unfold tb19 at h
  split at h
  · cases h; exact sound58
  · cases h

theorem sound19 : Sound Try.prog 19 conEqRecS := func_sound (C := tb19) (kt := ktI) (hws := [(6, [.any, .any, .any, .any, .any, .any, .any, .any, .pure, .any])]) tb19_sound (f := 19) (fn := Try.f19) (af := af19) Try.func19 (named (m := "loop.example/g00678/laws.eqRecS") (by kernel_rfl) (by decide)) (by kernel_rfl) (fun xs hok => does19 xs hok)

theorem sound15 : Sound Try.prog 15 conSzRecS := func_sound (C := tbNone) (kt := ktI) (hws := []) tbNone_sound (f := 15) (fn := Try.f15) (af := af15) Try.func15 (named (m := "loop.example/g00678/laws.szRecS") (by kernel_rfl) (by decide)) (by kernel_rfl) (fun xs hok => does15 xs hok)

theorem sound30 : Sound Try.prog 30 conMarkRecS := func_sound (C := tbNone) (kt := ktI) (hws := []) tbNone_sound (f := 30) (fn := Try.f30) (af := af30) Try.func30 (named (m := "loop.example/g00678/laws.markRecS") (by kernel_rfl) (by decide)) (by kernel_rfl) (fun xs hok => does30 xs hok)

theorem tb100_sound : TabSound Try.prog tb100 := by
  intro f c h
  unfold tb100 at h
  split at h
  · cases h; exact sound82
  · cases h; exact sound88
  · cases h; exact sound99
  · cases h

theorem sound100 : Sound Try.prog 100 conFact := func_sound (C := tb100) (kt := ktI) (hws := []) tb100_sound (f := 100) (fn := Try.f100) (af := af100) Try.func100 (named (m := "loop.example/g00678/impl.FactRight") (by kernel_rfl) (by decide)) (by kernel_rfl) (fun xs hok => does100 xs hok)

theorem tb59_sound : TabSound Try.prog tb59 := by
  intro f c h
  unfold tb59 at h
  split at h
  · cases h; exact sound76
  · cases h; exact sound80
  · cases h; exact sound95
  · cases h

theorem sound59 : Sound Try.prog 59 conRecOk := func_sound (C := tb59) (kt := ktI) (hws := []) tb59_sound (f := 59) (fn := Try.f59) (af := af59) Try.func59 (named (m := "loop.example/g00678/spec.RecRight") (by kernel_rfl) (by decide)) (by kernel_rfl) (fun xs hok => does59 xs hok)

theorem tb61_sound : TabSound Try.prog tb61 := by
  intro f c h
  unfold tb61 at h
  split at h
  · cases h; exact sound82
  · cases h; exact sound99
  · cases h; exact sound100
  · cases h

theorem sound61 : Sound Try.prog 61 conRecOk := func_sound (C := tb61) (kt := ktI) (hws := []) tb61_sound (f := 61) (fn := Try.f61) (af := af61) Try.func61 (named (m := "loop.example/g00678/impl.RecRight") (by kernel_rfl) (by decide)) (by kernel_rfl) (fun xs hok => does61 xs hok)

theorem sound121 : Sound Try.prog 121 conIsOwn := func_sound (C := tbNone) (kt := ktI) (hws := []) tbNone_sound (f := 121) (fn := Try.f121) (af := af121) Try.func121 (named (m := "loop.example/g00678/impl.isOwn") (by kernel_rfl) (by decide)) (by kernel_rfl) (fun xs hok => does121 xs hok)

theorem sound130 : Sound Try.prog 130 conTold := func_sound (C := tbNone) (kt := ktI) (hws := []) tbNone_sound (f := 130) (fn := Try.f130) (af := af130) Try.func130 (named (m := "loop.example/g00678/spec.l12Told") (by kernel_rfl) (by decide)) (by kernel_rfl) (fun xs hok => does130 xs hok)

theorem sound148 : Sound Try.prog 148 conLess := func_sound (C := tbNone) (kt := ktI) (hws := []) tbNone_sound (f := 148) (fn := Try.f148) (af := af148) Try.func148 (named (m := "loop.example/g00678/impl.less") (by kernel_rfl) (by decide)) (by kernel_rfl) (fun xs hok => does148 xs hok)

theorem sound149 : Sound Try.prog 149 conLess := func_sound (C := tbNone) (kt := ktI) (hws := []) tbNone_sound (f := 149) (fn := Try.f149) (af := af149) Try.func149 (named (m := "loop.example/g00678/spec.l04Less") (by kernel_rfl) (by decide)) (by kernel_rfl) (fun xs hok => does149 xs hok)

theorem sound84 : Sound Try.prog 84 conFactOf := func_sound (C := tbNone) (kt := ktI) (hws := []) tbNone_sound (f := 84) (fn := Try.f84) (af := af84) Try.func84 (named (m := "loop.example/g00678/impl.factOf") (by kernel_rfl) (by decide)) (by kernel_rfl) (fun xs hok => does84 xs hok)

theorem tb131_sound : TabSound Try.prog tb131 := by
  intro f c h
  unfold tb131 at h
  split at h
  · cases h; exact sound149
  · cases h

theorem sound131 : Sound Try.prog 131 conLeast := func_sound (C := tb131) (kt := ktI) (hws := []) tb131_sound (f := 131) (fn := Try.f131) (af := af131) Try.func131 (named (m := "loop.example/g00678/spec.l12Least") (by kernel_rfl) (by decide)) (by kernel_rfl) (fun xs hok => does131 xs hok)

theorem sound78 : Sound Try.prog 78 conClause := func_sound (C := tb99) (kt := ktI) (hws := []) tb99_sound (f := 78) (fn := Try.f78) (af := af78) Try.func78 (named (m := "loop.example/g00678/impl.isClause") (by kernel_rfl) (by decide)) (by kernel_rfl) (fun xs hok => does78 xs hok)

theorem sound143 : Sound Try.prog 143 conIsLife := func_sound (C := tbNone) (kt := ktI) (hws := []) tbNone_sound (f := 143) (fn := Try.f143) (af := af143) Try.func143 (named (m := "loop.example/g00678/impl.isLife") (by kernel_rfl) (by decide)) (by kernel_rfl) (fun xs hok => does143 xs hok)

theorem tb93_sound : TabSound Try.prog tb93 := by
  intro f c h
  unfold tb93 at h
  split at h
  · cases h; exact sound61
  · cases h

theorem sound93 : Sound Try.prog 93 conCl93 := func_sound (C := tb93) (kt := ktI) (hws := []) tb93_sound (f := 93) (fn := Try.f93) (af := af93) Try.func93 (named (m := "loop.example/g00678/impl.areRecs$1") (by kernel_rfl) (by decide)) (by kernel_rfl) (fun xs hok => does93 xs hok)

theorem sound57 : Sound Try.prog 57 conCl57 := func_sound (C := tbNone) (kt := ktI) (hws := []) tbNone_sound (f := 57) (fn := Try.f57) (af := af57) Try.func57 (named (m := "loop.example/g00678/impl.Answered$1") (by kernel_rfl) (by decide)) (by kernel_rfl) (fun xs hok => does57 xs hok)

theorem tb142_sound : TabSound Try.prog tb142 := by
  intro f c h
  unfold tb142 at h
  split at h
  · cases h; exact sound143
  · cases h

theorem sound142 : Sound Try.prog 142 conCl142 := func_sound (C := tb142) (kt := ktI) (hws := []) tb142_sound (f := 142) (fn := Try.f142) (af := af142) Try.func142 (named (m := "loop.example/g00678/impl.lifeOf$1") (by kernel_rfl) (by decide)) (by kernel_rfl) (fun xs hok => does142 xs hok)

theorem sound109 : Sound Try.prog 109 conCl109 := func_sound (C := tbNone) (kt := ktI) (hws := []) tbNone_sound (f := 109) (fn := Try.f109) (af := af109) Try.func109 (named (m := "loop.example/g00678/impl.directly$1") (by kernel_rfl) (by decide)) (by kernel_rfl) (fun xs hok => does109 xs hok)

theorem sound144 : Sound Try.prog 144 conCl144 := func_sound (C := tbNone) (kt := ktI) (hws := []) tbNone_sound (f := 144) (fn := Try.f144) (af := af144) Try.func144 (named (m := "loop.example/g00678/impl.isSentFor$1") (by kernel_rfl) (by decide)) (by kernel_rfl) (fun xs hok => does144 xs hok)

theorem sound147 : Sound Try.prog 147 conCl147 := func_sound (C := tbNone) (kt := ktI) (hws := []) tbNone_sound (f := 147) (fn := Try.f147) (af := af147) Try.func147 (named (m := "loop.example/g00678/impl.risen$1") (by kernel_rfl) (by decide)) (by kernel_rfl) (fun xs hok => does147 xs hok)

theorem tb145_sound : TabSound Try.prog tb145 := by
  intro f c h
  unfold tb145 at h
  split at h
  · cases h; exact sound121
  · cases h

theorem sound145 : Sound Try.prog 145 conCl145 := func_sound (C := tb145) (kt := ktI) (hws := []) tb145_sound (f := 145) (fn := Try.f145) (af := af145) Try.func145 (named (m := "loop.example/g00678/impl.noLess$1") (by kernel_rfl) (by decide)) (by kernel_rfl) (fun xs hok => does145 xs hok)

theorem sound146 : Sound Try.prog 146 conCl146 := func_sound (C := tbNone) (kt := ktI) (hws := []) tbNone_sound (f := 146) (fn := Try.f146) (af := af146) Try.func146 (named (m := "loop.example/g00678/impl.same$1") (by kernel_rfl) (by decide)) (by kernel_rfl) (fun xs hok => does146 xs hok)

theorem sound120 : Sound Try.prog 120 conCl120 := func_sound (C := tb145) (kt := ktI) (hws := []) tb145_sound (f := 120) (fn := Try.f120) (af := af120) Try.func120 (named (m := "loop.example/g00678/impl.breaks$1") (by kernel_rfl) (by decide)) (by kernel_rfl) (fun xs hok => does120 xs hok)

theorem sound122 : Sound Try.prog 122 conCl122 := func_sound (C := tbNone) (kt := ktI) (hws := []) tbNone_sound (f := 122) (fn := Try.f122) (af := af122) Try.func122 (named (m := "loop.example/g00678/impl.breaks$2") (by kernel_rfl) (by decide)) (by kernel_rfl) (fun xs hok => does122 xs hok)

theorem sound123 : Sound Try.prog 123 conCl123 := func_sound (C := tbNone) (kt := ktI) (hws := []) tbNone_sound (f := 123) (fn := Try.f123) (af := af123) Try.func123 (named (m := "loop.example/g00678/impl.breaks$3") (by kernel_rfl) (by decide)) (by kernel_rfl) (fun xs hok => does123 xs hok)

theorem sound135 : Sound Try.prog 135 conCl135 := func_sound (C := tbNone) (kt := ktI) (hws := []) tbNone_sound (f := 135) (fn := Try.f135) (af := af135) Try.func135 (named (m := "loop.example/g00678/impl.shown$1") (by kernel_rfl) (by decide)) (by kernel_rfl) (fun xs hok => does135 xs hok)

theorem tbCl_sound : TabSound Try.prog tbCl := by
  intro f c h
  unfold tbCl at h
  split at h
  · cases h; exact sound57
  · cases h; exact sound93
  · cases h; exact sound109
  · cases h; exact sound120
  · cases h; exact sound122
  · cases h; exact sound123
  · cases h; exact sound135
  · cases h; exact sound142
  · cases h; exact sound144
  · cases h; exact sound145
  · cases h; exact sound146
  · cases h; exact sound147
  · cases h

theorem sound94 : Sound Try.prog 94 conIndexR := func_sound (C := tbCl) (kt := ktI) (hws := []) tbCl_sound (f := 94) (fn := Try.f94) (af := af94) Try.func94 (named (m := "slices.IndexFunc[[]loop.example/g00678/impl.Rec,loop.example/g00678/impl.Rec]") (by kernel_rfl) (by decide)) (by kernel_rfl) (fun xs hok => does94 xs hok)

theorem tb56_sound : TabSound Try.prog tb56 := by
  intro f c h
  unfold tb56 at h
  split at h
  · cases h; exact sound94
  · cases h

theorem sound56 : Sound Try.prog 56 conContainsR := func_sound (C := tb56) (kt := ktI) (hws := []) tb56_sound (f := 56) (fn := Try.f56) (af := af56) Try.func56 (named (m := "slices.ContainsFunc[[]loop.example/g00678/impl.Rec,loop.example/g00678/impl.Rec]") (by kernel_rfl) (by decide)) (by kernel_rfl) (fun xs hok => does56 xs hok)

theorem sound108 : Sound Try.prog 108 conLastOf := func_sound (C := tbCl) (kt := ktI) (hws := []) tbCl_sound (f := 108) (fn := Try.f108) (af := af108) Try.func108 (named (m := "loop.example/g00678/impl.lastOf") (by kernel_rfl) (by decide)) (by kernel_rfl) (fun xs hok => does108 xs hok)

theorem sound117 : Sound Try.prog 117 conNoLess := func_sound (C := tbNone) (kt := ktI) (hws := []) tbNone_sound (f := 117) (fn := Try.f117) (af := af117) Try.func117 (named (m := "loop.example/g00678/impl.noLess") (by kernel_rfl) (by decide)) (by kernel_rfl) (fun xs hok => does117 xs hok)

theorem sound110 : Sound Try.prog 110 conIsSentFor := func_sound (C := tbNone) (kt := ktI) (hws := []) tbNone_sound (f := 110) (fn := Try.f110) (af := af110) Try.func110 (named (m := "loop.example/g00678/impl.isSentFor") (by kernel_rfl) (by decide)) (by kernel_rfl) (fun xs hok => does110 xs hok)

theorem sound118 : Sound Try.prog 118 conSame := func_sound (C := tbNone) (kt := ktI) (hws := []) tbNone_sound (f := 118) (fn := Try.f118) (af := af118) Try.func118 (named (m := "loop.example/g00678/impl.same") (by kernel_rfl) (by decide)) (by kernel_rfl) (fun xs hok => does118 xs hok)

theorem tb55_sound : TabSound Try.prog tb55 := by
  intro f c h
  unfold tb55 at h
  split at h
  · cases h; exact sound56
  · cases h

theorem sound55 : Sound Try.prog 55 conRecsOk := func_sound (C := tb55) (kt := ktI) (hws := []) tb55_sound (f := 55) (fn := Try.f55) (af := af55) Try.func55 (named (m := "loop.example/g00678/impl.areRecs") (by kernel_rfl) (by decide)) (by kernel_rfl) (fun xs hok => does55 xs hok)

theorem tb54_sound : TabSound Try.prog tb54 := by
  intro f c h
  unfold tb54 at h
  split at h
  · cases h; exact sound59
  · cases h

theorem sound54 : Sound Try.prog 54 conRecsOk := func_sound (C := tb54) (kt := ktI) (hws := []) tb54_sound (f := 54) (fn := Try.f54) (af := af54) Try.func54 (named (m := "loop.example/g00678/spec.l12Recs") (by kernel_rfl) (by decide)) (by kernel_rfl) (fun xs hok => does54 xs hok)

theorem tb106_sound : TabSound Try.prog tb106 := by
  intro f c h
  unfold tb106 at h
  split at h
  · cases h; exact sound108
  · cases h

theorem sound106 : Sound Try.prog 106 conLast := func_sound (C := tb106) (kt := ktI) (hws := []) tb106_sound (f := 106) (fn := Try.f106) (af := af106) Try.func106 (named (m := "loop.example/g00678/impl.lifeOf") (by kernel_rfl) (by decide)) (by kernel_rfl) (fun xs hok => does106 xs hok)

theorem sound87 : Sound Try.prog 87 conLast := func_sound (C := tbNone) (kt := ktI) (hws := []) tbNone_sound (f := 87) (fn := Try.f87) (af := af87) Try.func87 (named (m := "loop.example/g00678/spec.l12Last") (by kernel_rfl) (by decide)) (by kernel_rfl) (fun xs hok => does87 xs hok)

theorem tb70_sound : TabSound Try.prog tb70 := by
  intro f c h
  unfold tb70 at h
  split at h
  · cases h; exact sound106
  · cases h

theorem sound70 : Sound Try.prog 70 conLives := func_sound (C := tb70) (kt := ktI) (hws := []) tb70_sound (f := 70) (fn := Try.f70) (af := af70) Try.func70 (named (m := "loop.example/g00678/impl.lives") (by kernel_rfl) (by decide)) (by kernel_rfl) (fun xs hok => does70 xs hok)

theorem tb69_sound : TabSound Try.prog tb69 := by
  intro f c h
  unfold tb69 at h
  split at h
  · cases h; exact sound87
  · cases h

theorem sound69 : Sound Try.prog 69 conLives := func_sound (C := tb69) (kt := ktI) (hws := []) tb69_sound (f := 69) (fn := Try.f69) (af := af69) Try.func69 (named (m := "loop.example/g00678/spec.l12Lives") (by kernel_rfl) (by decide)) (by kernel_rfl) (fun xs hok => does69 xs hok)

theorem sound116 : Sound Try.prog 116 conHasAhead := func_sound (C := tb106) (kt := ktI) (hws := []) tb106_sound (f := 116) (fn := Try.f116) (af := af116) Try.func116 (named (m := "loop.example/g00678/impl.hasAhead") (by kernel_rfl) (by decide)) (by kernel_rfl) (fun xs hok => does116 xs hok)

theorem tb119_sound : TabSound Try.prog tb119 := by
  intro f c h
  unfold tb119 at h
  split at h
  · cases h; exact sound84
  · cases h; exact sound108
  · cases h; exact sound148
  · cases h

theorem sound119 : Sound Try.prog 119 conRisen := func_sound (C := tb119) (kt := ktI) (hws := [(8, [.any, .boxed, .any, .boxed, .any, .any, .any, .boxed, .any, .any, .any, .any, .boxed, .any, .boxed, .any, .any, .any, .boxed, .pure, .boxed, .pure, .pure, .any, .any])]) tb119_sound (f := 119) (fn := Try.f119) (af := af119) Try.func119 (named (m := "loop.example/g00678/impl.risen") (by kernel_rfl) (by decide)) (by kernel_rfl) (fun xs hok => does119 xs hok)

theorem tb79_sound : TabSound Try.prog tb79 := by
  intro f c h
  unfold tb79 at h
  split at h
  · cases h; exact sound70
  · cases h; exact sound110
  · cases h; exact sound116
  · cases h; exact sound117
  · cases h; exact sound118
  · cases h; exact sound119
  · cases h

theorem sound79 : Sound Try.prog 79 conBreaksI := func_sound (C := tb79) (kt := ktI) (hws := [(5, [.any, .any, .any, .any, .any, .any, .any, .any, .any, .any, .boxed, .any, .any, .any])]) tb79_sound (f := 79) (fn := Try.f79) (af := af79) Try.func79 (named (m := "loop.example/g00678/impl.breaks") (by kernel_rfl) (by decide)) (by kernel_rfl) (fun xs hok => does79 xs hok)

theorem tb114_sound : TabSound Try.prog tb114 := by
  intro f c h
  unfold tb114 at h
  split at h
  · cases h; exact sound131
  · cases h

theorem sound114 : Sound Try.prog 114 conRise := func_sound (C := tb114) (kt := ktI) (hws := [(4, [.any, .any, .any, .any, .any, .any, .any, .any, .any, .any, .any, .any, .any, .any, .any, .any, .any, .any, .any]), (6, [.any, .any, .any, .any, .any, .any, .any, .any, .any, .any, .any, .any, .any, .any, .any, .any, .any, .any, .any, .any, .any, .any, .any, .any, .any, .any, .any, .any, .any, .any, .any, .any, .any, .any, .any, .any, .any, .any, .any, .any, .any, .pure, .any])]) tb114_sound (f := 114) (fn := Try.f114) (af := af114) Try.func114 (named (m := "loop.example/g00678/spec.l12Rise") (by kernel_rfl) (by decide)) (by kernel_rfl) (fun xs hok => does114 xs hok)

theorem sound112 : Sound Try.prog 112 conTwin := func_sound (C := tbNone) (kt := ktI) (hws := [(4, [.any, .any, .any, .any, .any, .any, .any, .any, .any, .any, .any, .any, .any, .any, .any, .any, .any, .any, .any, .any, .any, .any, .any, .any])]) tbNone_sound (f := 112) (fn := Try.f112) (af := af112) Try.func112 (named (m := "loop.example/g00678/spec.l12Twin") (by kernel_rfl) (by decide)) (by kernel_rfl) (fun xs hok => does112 xs hok)

theorem sound113 : Sound Try.prog 113 conSent := func_sound (C := tbNone) (kt := ktI) (hws := [(4, [.any, .any, .any, .any, .any, .any, .any, .any, .any, .any, .any, .any, .any, .any, .any, .any, .any, .any, .any, .any, .any, .any, .any, .any, .any, .any, .any, .any, .any, .any, .any, .any, .any, .any, .any, .any, .any, .any, .any, .any, .any, .any, .any, .any, .any])]) tbNone_sound (f := 113) (fn := Try.f113) (af := af113) Try.func113 (named (m := "loop.example/g00678/spec.l12Sent") (by kernel_rfl) (by decide)) (by kernel_rfl) (fun xs hok => does113 xs hok)

theorem tb111_sound : TabSound Try.prog tb111 := by
  intro f c h
  unfold tb111 at h
  split at h
  · cases h; exact sound130
  · cases h

theorem sound111 : Sound Try.prog 111 conBorn := func_sound (C := tb111) (kt := ktI) (hws := [(4, [.any, .any, .any, .any, .any, .any, .any, .any, .any, .pure, .any, .any, .any, .any, .any, .any])]) tb111_sound (f := 111) (fn := Try.f111) (af := af111) Try.func111 (named (m := "loop.example/g00678/spec.l12Born") (by kernel_rfl) (by decide)) (by kernel_rfl) (fun xs hok => does111 xs hok)

theorem sound115 : Sound Try.prog 115 conKnown := func_sound (C := tb111) (kt := ktI) (hws := [(9, [.boxed, .any, .boxed, .pure, .any, .boxed, .any])]) tb111_sound (f := 115) (fn := Try.f115) (af := af115) Try.func115 (named (m := "loop.example/g00678/spec.l12Known") (by kernel_rfl) (by decide)) (by kernel_rfl) (fun xs hok => does115 xs hok)

theorem tb77_sound : TabSound Try.prog tb77 := by
  intro f c h
  unfold tb77 at h
  split at h
  · cases h; exact sound69
  · cases h; exact sound111
  · cases h; exact sound112
  · cases h; exact sound113
  · cases h; exact sound114
  · cases h; exact sound115
  · cases h

theorem sound77 : Sound Try.prog 77 conBreaksS := func_sound (C := tb77) (kt := ktI) (hws := [(6, [.any, .any, .any, .any, .any, .any, .any, .any, .any, .any, .boxed, .any, .any, .any])]) tb77_sound (f := 77) (fn := Try.f77) (af := af77) Try.func77 (named (m := "loop.example/g00678/spec.l12Breaks") (by kernel_rfl) (by decide)) (by kernel_rfl) (fun xs hok => does77 xs hok)

theorem tb40_sound : TabSound Try.prog tb40 := by
  intro f c h
  unfold tb40 at h
  split at h
  · cases h; exact sound55
  · cases h; exact sound78
  · cases h; exact sound79
  · cases h

theorem sound40 : Sound Try.prog 40 conFits := func_sound (C := tb40) (kt := ktI) (hws := []) tb40_sound (f := 40) (fn := Try.f40) (af := af40) Try.func40 (named (m := "loop.example/g00678/impl.Fits") (by kernel_rfl) (by decide)) (by kernel_rfl) (fun xs hok => does40 xs hok)

theorem tb39_sound : TabSound Try.prog tb39 := by
  intro f c h
  unfold tb39 at h
  split at h
  · cases h; exact sound54
  · cases h; exact sound76
  · cases h; exact sound77
  · cases h

theorem sound39 : Sound Try.prog 39 conFits := func_sound (C := tb39) (kt := ktI) (hws := []) tb39_sound (f := 39) (fn := Try.f39) (af := af39) Try.func39 (named (m := "loop.example/g00678/spec.Fits") (by kernel_rfl) (by decide)) (by kernel_rfl) (fun xs hok => does39 xs hok)

theorem tb90_sound : TabSound Try.prog tb90 := by
  intro f c h
  unfold tb90 at h
  split at h
  · cases h; exact sound70
  · cases h; exact sound94
  · cases h; exact sound106
  · cases h; exact sound108
  · cases h; exact sound117
  · cases h; exact sound118
  · cases h; exact sound119
  · cases h

theorem sound90 : Sound Try.prog 90 conShownI := func_sound (C := tb90) (kt := ktI) (hws := []) tb90_sound (f := 90) (fn := Try.f90) (af := af90) Try.func90 (named (m := "loop.example/g00678/impl.shown") (by kernel_rfl) (by decide)) (by kernel_rfl) (fun xs hok => does90 xs hok)

theorem tb136_sound : TabSound Try.prog tb136 := by
  intro f c h
  unfold tb136 at h
  split at h
  · cases h; exact sound69
  · cases h; exact sound87
  · cases h; exact sound111
  · cases h; exact sound112
  · cases h; exact sound114
  · cases h

theorem sound136 : Sound Try.prog 136 conShownS := func_sound (C := tb136) (kt := ktI) (hws := []) tb136_sound (f := 136) (fn := Try.f136) (af := af136) Try.func136 (named (m := "loop.example/g00678/spec.l12Shown") (by kernel_rfl) (by decide)) (by kernel_rfl) (fun xs hok => does136 xs hok)

theorem sound92 : Sound Try.prog 92 conLong := func_sound (C := tbNone) (kt := ktI) (hws := []) tbNone_sound (f := 92) (fn := Try.f92) (af := af92) Try.func92 (named (m := "loop.example/g00678/impl.longList[loop.example/g00678/impl.Rec]") (by kernel_rfl) (by decide)) (by kernel_rfl) (fun xs hok => does92 xs hok)

theorem tb50_sound : TabSound Try.prog tb50 := by
  intro f c h
  unfold tb50 at h
  split at h
  · cases h; exact sound55
  · cases h; exact sound79
  · cases h; exact sound90
  · cases h; exact sound92
  · cases h

theorem sound50 : Sound Try.prog 50 conJudge := func_sound (C := tb50) (kt := ktI) (hws := []) tb50_sound (f := 50) (fn := Try.f50) (af := af50) Try.func50 (named (m := "loop.example/g00678/impl.Judge") (by kernel_rfl) (by decide)) (by kernel_rfl) (fun xs hok => does50 xs hok)

theorem tb91_sound : TabSound Try.prog tb91 := by
  intro f c h
  unfold tb91 at h
  split at h
  · cases h; exact sound77
  · cases h; exact sound136
  · cases h

theorem sound91 : Sound Try.prog 91 conJudgeS := func_sound (C := tb91) (kt := ktI) (hws := []) tb91_sound (f := 91) (fn := Try.f91) (af := af91) Try.func91 (named (m := "loop.example/g00678/spec.l12Judge") (by kernel_rfl) (by decide)) (by kernel_rfl) (fun xs hok => does91 xs hok)

theorem tb49_sound : TabSound Try.prog tb49 := by
  intro f c h
  unfold tb49 at h
  split at h
  · cases h; exact sound54
  · cases h; exact sound91
  · cases h

theorem sound49 : Sound Try.prog 49 conJudge := func_sound (C := tb49) (kt := ktI) (hws := []) tb49_sound (f := 49) (fn := Try.f49) (af := af49) Try.func49 (named (m := "loop.example/g00678/spec.Judge") (by kernel_rfl) (by decide)) (by kernel_rfl) (fun xs hok => does49 xs hok)

theorem tb51_sound : TabSound Try.prog tb51 := by
  intro f c h
  unfold tb51 at h
  split at h
  · cases h; exact sound29
  · cases h

theorem sound51 : Sound Try.prog 51 conEqRuling := func_sound (C := tb51) (kt := ktI) (hws := []) tb51_sound (f := 51) (fn := Try.f51) (af := af51) Try.func51 (named (m := "loop.example/g00678/laws.eqRuling") (by kernel_rfl) (by decide)) (by kernel_rfl) (fun xs hok => does51 xs hok)

theorem tb52_sound : TabSound Try.prog tb52 := by
  intro f c h
  unfold tb52 at h
  split at h
  · cases h; exact sound31
  · cases h

theorem sound52 : Sound Try.prog 52 conMarkRuling := func_sound (C := tb52) (kt := ktI) (hws := []) tb52_sound (f := 52) (fn := Try.f52) (af := af52) Try.func52 (named (m := "loop.example/g00678/laws.markRuling") (by kernel_rfl) (by decide)) (by kernel_rfl) (fun xs hok => does52 xs hok)

theorem tb53_sound : TabSound Try.prog tb53 := by
  intro f c h
  unfold tb53 at h
  split at h
  · cases h; exact sound32
  · cases h

theorem sound53 : Sound Try.prog 53 conHeldRuling := func_sound (C := tb53) (kt := ktI) (hws := []) tb53_sound (f := 53) (fn := Try.f53) (af := af53) Try.func53 (named (m := "loop.example/g00678/laws.heldRuling") (by kernel_rfl) (by decide)) (by kernel_rfl) (fun xs hok => does53 xs hok)

theorem tb14_sound : TabSound Try.prog tb14 := by
  intro f c h
  unfold tb14 at h
  split at h
  · cases h; exact sound15
  · cases h; exact sound17
  · cases h; exact sound19
  · cases h; exact sound30
  · cases h; exact sound49
  · cases h; exact sound50
  · cases h; exact sound51
  · cases h; exact sound52
  · cases h; exact sound53
  · cases h

theorem sound14 : Sound Try.prog 14 conLawR := func_sound (C := tb14) (kt := ktI) (hws := []) tb14_sound (f := 14) (fn := Try.f14) (af := af14) Try.func14 (named (m := "loop.example/g00678/laws.FnExactJudge") (by kernel_rfl) (by decide)) (by kernel_rfl) (fun xs hok => does14 xs hok)

end Go.Proofs.Ytpinkajnaeacdaa
