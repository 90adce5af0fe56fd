/- Records: what the specification and the program say of one. -/
import Derived.Test.YtbiefokigponpaaRecA
namespace Go.Proofs.Ytbiefokigponpaa
set_option linter.unusedVariables false
set_option linter.unusedSimpArgs false
set_option linter.unnecessarySimpa false

/-- A right record. -/
def recOk (t n k a b c : Int) : Bool := inr t 0 1000000 && (inr n 1 6 && (
  if k = 1 then inr a 0 1000000 && (b == 0 && c == 0)
  else if k = 2 then a == 0 && (b == 0 && c == 0)
  else if k = 3 ∨ k = 4 then inr a 0 1000000 && (inr b 1 6 && c == 0)
  else if k = 5 then inr a 1 6 && (inr b 0 1000000 && inr c 1 3)
  else if k = 6 then inr a 1 6 && (b == 0 && c == 0)
  else false))

def conRecOk : Con := ⟨[.v], .v, fun as => match as with
  | [.agg [.int .i64 a, .int .i64 b, .int .i64 c, .int .i64 d, .int .i64 e, .int .i64 f]] => some (.bool (recOk a b c d e f), [])
  | _ => none⟩

def tabB : Tab := fun f => match f with
  | 27 => some conIn
  | 29 => some conTime
  | 30 => some conNode
  | _ => none

theorem tabB_27 : tabB 27 = some conIn := rfl
theorem tabB_29 : tabB 29 = some conTime := rfl
theorem tabB_30 : tabB 30 = some conNode := rfl

def tabC : Tab := fun f => match f with
  | 31 => some conTime
  | 32 => some conNode
  | 33 => some conFact
  | _ => none

theorem tabC_31 : tabC 31 = some conTime := rfl
theorem tabC_32 : tabC 32 = some conNode := rfl
theorem tabC_33 : tabC 33 = some conFact := rfl

set_option maxHeartbeats 4000000 in
theorem does11 (as : List AV) : Does tabB af11 conRecOk as := by
  cases h : (conRecOk).run as with
  | none => exact does_none h
  | some out =>
    have h' := h
    simp only [conRecOk] at h'
    split at h'
    · rename_i a b c d e f
      simp only [Option.some.injEq] at h'
      subst h'
      with_reducible refine does_by h fun Q hQ => ?_
      clear h
      dsimp only [go_sem, af11, conRecOk, Nat.reduceAdd, Nat.reduceMul, Nat.reduceSub, Nat.reduceBEq, Nat.reduceLeDiff, Nat.reduceEqDiff, ↓dreduceIte]
      repeat' first
        | with_reducible refine kon_seq ?_
        | with_reducible refine kon_nil ?_
        | with_reducible refine kon_skip ?_
        | with_reducible refine kon_block ?_
        | with_reducible refine kon_ret ?_
        | with_reducible refine kon_exit ?_
        | with_reducible refine kon_past_ret ?_
        | with_reducible refine kon_past_exit ?_
        | with_reducible refine kon_blk_ret ?_
        | with_reducible refine kon_blk_end ?_
        | with_reducible refine kon_blk_exit ?_
        | (with_reducible refine kon_ins fun R hR => ?_
           dsimp only [go_sem, tabB_27, tabB_29, tabB_30, conIn, conTime, conNode, Nat.reduceAdd, Nat.reduceMul, Nat.reduceSub, Nat.reduceBEq, Nat.reduceLeDiff, Nat.reduceEqDiff, ↓dreduceIte]
           with_reducible refine hR _ ?_
           clear hR R)
        | (with_reducible refine kon_g fun R hR => ?_
           dsimp only [go_sem, tabB_27, tabB_29, tabB_30, conIn, conTime, conNode, Nat.reduceAdd, Nat.reduceMul, Nat.reduceSub, Nat.reduceBEq, Nat.reduceLeDiff, Nat.reduceEqDiff, ↓dreduceIte]
           with_reducible refine hR _ ?_
           clear hR R)
        | (with_reducible refine kon_g fun R hR => ?_
           dsimp only [go_sem, tabB_27, tabB_29, tabB_30, conIn, conTime, conNode, Nat.reduceAdd, Nat.reduceMul, Nat.reduceSub, Nat.reduceBEq, Nat.reduceLeDiff, Nat.reduceEqDiff, ↓dreduceIte]
           split <;> (rename_i hb; with_reducible refine hR _ ?_; clear hR R; simp only [hb]))
        | (with_reducible refine kon_cond fun R1 R2 h1 h2 => ?_
           dsimp only [go_sem]
           first
             | (with_reducible refine h1 ?_; clear h1 h2 R1 R2)
             | (with_reducible refine h2 ?_; clear h1 h2 R1 R2)
             | (split <;> rename_i hb <;> first
                 | (with_reducible refine h1 ?_; clear h1 h2 R1 R2; try simp only [hb])
                 | (with_reducible refine h2 ?_; clear h1 h2 R1 R2; try simp only [hb])))
      all_goals
        dsimp only [kon]
        with_reducible refine hQ _ _ _ ?_
        dsimp only [go_sem, kon, endQ, af11, conRecOk, tabB_27, tabB_29, tabB_30, conIn, conTime, conNode, Nat.reduceAdd, Nat.reduceMul, Nat.reduceSub, Nat.reduceBEq, Nat.reduceLeDiff, Nat.reduceEqDiff, ↓dreduceIte]
        try simp only [Option.some.injEq, Prod.mk.injEq, and_true, AV.bool.injEq, List.cons.injEq]
        try simp_all [recOk]
        try (rw [Bool.eq_iff_iff]; simp only [Bool.and_eq_true, Bool.or_eq_true, decide_eq_true_eq, beq_iff_eq])
        try omega
    · simp at h'

set_option maxHeartbeats 4000000 in
theorem does13 (as : List AV) : Does tabC af13 conRecOk as := by
  cases h : (conRecOk).run as with
  | none => exact does_none h
  | some out =>
    have h' := h
    simp only [conRecOk] at h'
    split at h'
    · rename_i a b c d e f
      simp only [Option.some.injEq] at h'
      subst h'
      with_reducible refine does_by h fun Q hQ => ?_
      clear h
      dsimp only [go_sem, af13, conRecOk, Nat.reduceAdd, Nat.reduceMul, Nat.reduceSub, Nat.reduceBEq, Nat.reduceLeDiff, Nat.reduceEqDiff, ↓dreduceIte]
      repeat' first
        | with_reducible refine kon_seq ?_
        | with_reducible refine kon_nil ?_
        | with_reducible refine kon_skip ?_
        | with_reducible refine kon_block ?_
        | with_reducible refine kon_ret ?_
        | with_reducible refine kon_exit ?_
        | with_reducible refine kon_past_ret ?_
        | with_reducible refine kon_past_exit ?_
        | with_reducible refine kon_blk_ret ?_
        | with_reducible refine kon_blk_end ?_
        | with_reducible refine kon_blk_exit ?_
        | (with_reducible refine kon_ins fun R hR => ?_
           dsimp only [go_sem, tabC_31, tabC_32, tabC_33, conTime, conNode, conFact, Nat.reduceAdd, Nat.reduceMul, Nat.reduceSub, Nat.reduceBEq, Nat.reduceLeDiff, Nat.reduceEqDiff, ↓dreduceIte]
           with_reducible refine hR _ ?_
           clear hR R)
        | (with_reducible refine kon_g fun R hR => ?_
           dsimp only [go_sem, tabC_31, tabC_32, tabC_33, conTime, conNode, conFact, Nat.reduceAdd, Nat.reduceMul, Nat.reduceSub, Nat.reduceBEq, Nat.reduceLeDiff, Nat.reduceEqDiff, ↓dreduceIte]
           with_reducible refine hR _ ?_
           clear hR R)
        | (with_reducible refine kon_g fun R hR => ?_
           dsimp only [go_sem, tabC_31, tabC_32, tabC_33, conTime, conNode, conFact, Nat.reduceAdd, Nat.reduceMul, Nat.reduceSub, Nat.reduceBEq, Nat.reduceLeDiff, Nat.reduceEqDiff, ↓dreduceIte]
           split <;> (rename_i hb; with_reducible refine hR _ ?_; clear hR R; simp only [hb]))
        | (with_reducible refine kon_cond fun R1 R2 h1 h2 => ?_
           dsimp only [go_sem]
           first
             | (with_reducible refine h1 ?_; clear h1 h2 R1 R2)
             | (with_reducible refine h2 ?_; clear h1 h2 R1 R2)
             | (split <;> rename_i hb <;> first
                 | (with_reducible refine h1 ?_; clear h1 h2 R1 R2; try simp only [hb])
                 | (with_reducible refine h2 ?_; clear h1 h2 R1 R2; try simp only [hb])))
      all_goals
        dsimp only [kon]
        with_reducible refine hQ _ _ _ ?_
        dsimp only [go_sem, kon, endQ, af13, conRecOk, tabC_31, tabC_32, tabC_33, conTime, conNode, conFact, Nat.reduceAdd, Nat.reduceMul, Nat.reduceSub, Nat.reduceBEq, Nat.reduceLeDiff, Nat.reduceEqDiff, ↓dreduceIte]
        try simp only [Option.some.injEq, Prod.mk.injEq, and_true, AV.bool.injEq, List.cons.injEq]
        try simp_all [recOk, factOk]
        try (rw [Bool.eq_iff_iff]; simp only [Bool.and_eq_true, Bool.or_eq_true, decide_eq_true_eq, beq_iff_eq])
        try omega
    · simp at h'

end Go.Proofs.Ytbiefokigponpaa
