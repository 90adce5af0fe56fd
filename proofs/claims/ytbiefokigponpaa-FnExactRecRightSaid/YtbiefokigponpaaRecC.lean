/- Records: the law. -/
import Derived.Test.YtbiefokigponpaaRecB
namespace Go.Proofs.Ytbiefokigponpaa
set_option linter.unusedVariables false
set_option linter.unusedSimpArgs false
set_option linter.unnecessarySimpa false

def tabL : Tab := fun f => match f with
  | 12 => some conRec
  | 11 => some conRecOk
  | 13 => some conRecOk
  | _ => none

theorem tabL_12 : tabL 12 = some conRec := rfl
theorem tabL_11 : tabL 11 = some conRecOk := rfl
theorem tabL_13 : tabL 13 = some conRecOk := rfl

def conLaw : Con := ⟨[.v], .v, fun as => match as with
  | [.agg [.int .i64 _, .int .i64 _, .int .i64 _, .int .i64 _, .int .i64 _, .int .i64 _]] => some (.bool true, [])
  | _ => none⟩

set_option maxHeartbeats 4000000 in
theorem does4 (as : List AV) : Does tabL af4 conLaw as := by
  cases h : (conLaw).run as with
  | none => exact does_none h
  | some out =>
    have h' := h
    simp only [conLaw] at h'
    split at h'
    · rename_i a b c d e f
      simp only [Option.some.injEq] at h'
      subst h'
      with_reducible refine does_by h fun Q hQ => ?_
      clear h
      dsimp only [go_sem, af4, conLaw, Nat.reduceAdd, Nat.reduceMul, Nat.reduceSub, Nat.reduceBEq, Nat.reduceLeDiff, Nat.reduceEqDiff, ↓dreduceIte]
      repeat' first
        | with_reducible refine kon_seq ?_
        | with_reducible refine kon_nil ?_
        | with_reducible refine kon_skip ?_
        | with_reducible refine kon_block ?_
        | with_reducible refine kon_ret ?_
        | with_reducible refine kon_exit ?_
        | with_reducible refine kon_past_ret ?_
        | with_reducible refine kon_past_exit ?_
        | with_reducible refine kon_blk_ret ?_
        | with_reducible refine kon_blk_end ?_
        | with_reducible refine kon_blk_exit ?_
        | (with_reducible refine kon_ins fun R hR => ?_
           dsimp only [go_sem, tabL_12, tabL_11, tabL_13, conRec, conRecOk, Nat.reduceAdd, Nat.reduceMul, Nat.reduceSub, Nat.reduceBEq, Nat.reduceLeDiff, Nat.reduceEqDiff, ↓dreduceIte]
           with_reducible refine hR _ ?_
           clear hR R)
        | (with_reducible refine kon_g fun R hR => ?_
           dsimp only [go_sem, tabL_12, tabL_11, tabL_13, conRec, conRecOk, Nat.reduceAdd, Nat.reduceMul, Nat.reduceSub, Nat.reduceBEq, Nat.reduceLeDiff, Nat.reduceEqDiff, ↓dreduceIte]
           with_reducible refine hR _ ?_
           clear hR R)
        | (with_reducible refine kon_g fun R hR => ?_
           dsimp only [go_sem, tabL_12, tabL_11, tabL_13, conRec, conRecOk, Nat.reduceAdd, Nat.reduceMul, Nat.reduceSub, Nat.reduceBEq, Nat.reduceLeDiff, Nat.reduceEqDiff, ↓dreduceIte]
           split <;> (rename_i hb; with_reducible refine hR _ ?_; clear hR R; simp only [hb]))
        | (with_reducible refine kon_cond fun R1 R2 h1 h2 => ?_
           dsimp only [go_sem]
           first
             | (with_reducible refine h1 ?_; clear h1 h2 R1 R2)
             | (with_reducible refine h2 ?_; clear h1 h2 R1 R2)
             | (split <;> rename_i hb <;> first
                 | (with_reducible refine h1 ?_; clear h1 h2 R1 R2; try simp only [hb])
                 | (with_reducible refine h2 ?_; clear h1 h2 R1 R2; try simp only [hb])))
      all_goals
        dsimp only [kon]
        with_reducible refine hQ _ _ _ ?_
        dsimp only [go_sem, kon, endQ, af4, conLaw, tabL_12, tabL_11, tabL_13, conRec, conRecOk, Nat.reduceAdd, Nat.reduceMul, Nat.reduceSub, Nat.reduceBEq, Nat.reduceLeDiff, Nat.reduceEqDiff, ↓dreduceIte]
        try simp_all
    · simp at h'

end Go.Proofs.Ytbiefokigponpaa
