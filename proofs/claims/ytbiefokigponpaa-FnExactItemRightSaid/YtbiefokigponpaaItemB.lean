/- Item: what the specification and the program say of one. -/
import Derived.Test.YtbiefokigponpaaItemA
namespace Go.Proofs.Ytbiefokigponpaa
set_option linter.unusedVariables false
set_option linter.unusedSimpArgs false
set_option linter.unnecessarySimpa false

def itemLo (k : Int) : Int := if k = 1 ∨ k = 2 ∨ k = 7 ∨ k = 3 then 1 else 0
def itemHi (k : Int) : Int := if k = 1 ∨ k = 2 ∨ k = 7 then 6 else if k = 3 then 63 else if k = 5 then 100 else if k = 6 ∨ k = 8 then 9 else 0

/-- A right item. -/
def itemOk (k t a b : Int) : Bool := inr k 1 9 && (inr t 0 2000 && ((decide (k ≠ 9) || decide (t = 0)) && (inr a (itemLo k) (itemHi k) && (if k = 8 then inr b 0 500 else b == 0))))

def conItemOk : Con := ⟨[.v], .v, fun as => match as with
  | [.agg [.int .i64 a, .int .i64 b, .int .i64 c, .int .i64 d]] => some (.bool (itemOk a b c d), [])
  | _ => none⟩

def tabA : Tab := fun f => match f with
  | 27 => some conIn
  | 28 => some conIn
  | _ => none

theorem tabA_27 : tabA 27 = some conIn := rfl
theorem tabA_28 : tabA 28 = some conIn := rfl

set_option maxHeartbeats 4000000 in
theorem does8 (as : List AV) : Does tabA af8 conItemOk as := by
  cases h : (conItemOk).run as with
  | none => exact does_none h
  | some out =>
    have h' := h
    simp only [conItemOk] at h'
    split at h'
    · rename_i a b c d
      simp only [Option.some.injEq] at h'
      subst h'
      with_reducible refine does_by h fun Q hQ => ?_
      clear h
      dsimp only [go_sem, af8, conItemOk, Nat.reduceAdd, Nat.reduceMul, Nat.reduceSub, Nat.reduceBEq, Nat.reduceLeDiff, Nat.reduceEqDiff, ↓dreduceIte]
      repeat' first
        | with_reducible refine kon_seq ?_
        | with_reducible refine kon_nil ?_
        | with_reducible refine kon_skip ?_
        | with_reducible refine kon_block ?_
        | with_reducible refine kon_ret ?_
        | with_reducible refine kon_exit ?_
        | with_reducible refine kon_past_ret ?_
        | with_reducible refine kon_past_exit ?_
        | with_reducible refine kon_blk_ret ?_
        | with_reducible refine kon_blk_end ?_
        | with_reducible refine kon_blk_exit ?_
        | (with_reducible refine kon_ins fun R hR => ?_
           dsimp only [go_sem, tabA_27, conIn, Nat.reduceAdd, Nat.reduceMul, Nat.reduceSub, Nat.reduceBEq, Nat.reduceLeDiff, Nat.reduceEqDiff, ↓dreduceIte]
           with_reducible refine hR _ ?_
           clear hR R)
        | (with_reducible refine kon_g fun R hR => ?_
           dsimp only [go_sem, tabA_27, conIn, Nat.reduceAdd, Nat.reduceMul, Nat.reduceSub, Nat.reduceBEq, Nat.reduceLeDiff, Nat.reduceEqDiff, ↓dreduceIte]
           with_reducible refine hR _ ?_
           clear hR R)
        | (with_reducible refine kon_g fun R hR => ?_
           dsimp only [go_sem, tabA_27, conIn, Nat.reduceAdd, Nat.reduceMul, Nat.reduceSub, Nat.reduceBEq, Nat.reduceLeDiff, Nat.reduceEqDiff, ↓dreduceIte]
           split <;> (rename_i hb; with_reducible refine hR _ ?_; clear hR R; simp only [hb]))
        | (with_reducible refine kon_cond fun R1 R2 h1 h2 => ?_
           dsimp only [go_sem]
           first
             | (with_reducible refine h1 ?_; clear h1 h2 R1 R2)
             | (with_reducible refine h2 ?_; clear h1 h2 R1 R2)
             | (split <;> rename_i hb <;> first
                 | (with_reducible refine h1 ?_; clear h1 h2 R1 R2; try simp only [hb])
                 | (with_reducible refine h2 ?_; clear h1 h2 R1 R2; try simp only [hb])))
      all_goals
        dsimp only [kon]
        with_reducible refine hQ _ _ _ ?_
        dsimp only [go_sem, kon, endQ, af8, conItemOk, tabA_27, conIn, Nat.reduceAdd, Nat.reduceMul, Nat.reduceSub, Nat.reduceBEq, Nat.reduceLeDiff, Nat.reduceEqDiff, ↓dreduceIte]
        try simp only [Option.some.injEq, Prod.mk.injEq, and_true, AV.bool.injEq, List.cons.injEq]
        try simp_all [itemOk, itemLo, itemHi, inr]
        try (rw [Bool.eq_iff_iff]; simp only [Bool.and_eq_true, Bool.or_eq_true, decide_eq_true_eq, beq_iff_eq])
        try omega
    · simp at h'

set_option maxHeartbeats 4000000 in
theorem does10 (as : List AV) : Does tabA af10 conItemOk as := by
  cases h : (conItemOk).run as with
  | none => exact does_none h
  | some out =>
    have h' := h
    simp only [conItemOk] at h'
    split at h'
    · rename_i a b c d
      simp only [Option.some.injEq] at h'
      subst h'
      with_reducible refine does_by h fun Q hQ => ?_
      clear h
      dsimp only [go_sem, af10, conItemOk, Nat.reduceAdd, Nat.reduceMul, Nat.reduceSub, Nat.reduceBEq, Nat.reduceLeDiff, Nat.reduceEqDiff, ↓dreduceIte]
      repeat' first
        | with_reducible refine kon_seq ?_
        | with_reducible refine kon_nil ?_
        | with_reducible refine kon_skip ?_
        | with_reducible refine kon_block ?_
        | with_reducible refine kon_ret ?_
        | with_reducible refine kon_exit ?_
        | with_reducible refine kon_past_ret ?_
        | with_reducible refine kon_past_exit ?_
        | with_reducible refine kon_blk_ret ?_
        | with_reducible refine kon_blk_end ?_
        | with_reducible refine kon_blk_exit ?_
        | (with_reducible refine kon_ins fun R hR => ?_
           dsimp only [go_sem, tabA_28, conIn, Nat.reduceAdd, Nat.reduceMul, Nat.reduceSub, Nat.reduceBEq, Nat.reduceLeDiff, Nat.reduceEqDiff, ↓dreduceIte]
           with_reducible refine hR _ ?_
           clear hR R)
        | (with_reducible refine kon_g fun R hR => ?_
           dsimp only [go_sem, tabA_28, conIn, Nat.reduceAdd, Nat.reduceMul, Nat.reduceSub, Nat.reduceBEq, Nat.reduceLeDiff, Nat.reduceEqDiff, ↓dreduceIte]
           with_reducible refine hR _ ?_
           clear hR R)
        | (with_reducible refine kon_g fun R hR => ?_
           dsimp only [go_sem, tabA_28, conIn, Nat.reduceAdd, Nat.reduceMul, Nat.reduceSub, Nat.reduceBEq, Nat.reduceLeDiff, Nat.reduceEqDiff, ↓dreduceIte]
           split <;> (rename_i hb; with_reducible refine hR _ ?_; clear hR R; simp only [hb]))
        | (with_reducible refine kon_cond fun R1 R2 h1 h2 => ?_
           dsimp only [go_sem]
           first
             | (with_reducible refine h1 ?_; clear h1 h2 R1 R2)
             | (with_reducible refine h2 ?_; clear h1 h2 R1 R2)
             | (split <;> rename_i hb <;> first
                 | (with_reducible refine h1 ?_; clear h1 h2 R1 R2; try simp only [hb])
                 | (with_reducible refine h2 ?_; clear h1 h2 R1 R2; try simp only [hb])))
      all_goals
        dsimp only [kon]
        with_reducible refine hQ _ _ _ ?_
        dsimp only [go_sem, kon, endQ, af10, conItemOk, tabA_28, conIn, Nat.reduceAdd, Nat.reduceMul, Nat.reduceSub, Nat.reduceBEq, Nat.reduceLeDiff, Nat.reduceEqDiff, ↓dreduceIte]
        try simp only [Option.some.injEq, Prod.mk.injEq, and_true, AV.bool.injEq, List.cons.injEq]
        try simp_all [itemOk, itemLo, itemHi, inr]
        try (rw [Bool.eq_iff_iff]; simp only [Bool.and_eq_true, Bool.or_eq_true, decide_eq_true_eq, beq_iff_eq])
        try omega
    · simp at h'

end Go.Proofs.Ytbiefokigponpaa
