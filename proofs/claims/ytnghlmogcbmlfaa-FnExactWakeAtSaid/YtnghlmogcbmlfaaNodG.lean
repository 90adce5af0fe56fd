/- When a node wakes. -/
import Derived.Test.YtnghlmogcbmlfaaNodD
namespace Go.Proofs.Ytnghlmogcbmlfaa
set_option linter.unusedVariables false
set_option linter.unusedSimpArgs false
set_option linter.unnecessarySimpa false

def dueMin (at_ : Int) (ds : List Doubt) : Int := ds.foldl (fun m d => if d.due < m then d.due else m) at_

theorem dueMin_step {x : Int} {ds : List Doubt} {i : Int} (h0 : 0 ≤ i) (h1 : i < ds.length) : dueMin x (ds.take (i + 1).toNat) = if (rd ds i).due < dueMin x (ds.take i.toNat) then (rd ds i).due else dueMin x (ds.take i.toNat) := by
  unfold dueMin
  rw [take_rd h0 h1, List.foldl_append]
  rfl

def wakeI (e pn pd : Int) (ds : List Doubt) : Int := dueMin (if pn ≠ 0 ∧ pd < e then pd else e) ds

def conWake : Con := ⟨[.agg [.v, .v, .v, .v, .v, .imm .fact, .imm .rumor, .imm .int, .v, .v, .v, .v, .v, .imm .doubt]], .v, fun as => match as with
  | [.agg [.int .i64 a, .int .i64 b, .int .i64 c, .int .i64 d, .int .i64 e, .sl .fact v, .sl .rumor r, .sl .int t, .int .i64 ta, .int .i64 pn, .int .i64 pm, .int .i64 pd, .bool pa, .sl .doubt ds]] => some (.int .i64 (if nodeP a b c d e v r t ta pn pm pd pa ds then wakeI e pn pd ds else -1), [])
  | _ => none⟩

def ndN (a b c d e : Int) (v : List Fact) (r : List Rumor) (t : List Int) (ta pn pm pd : Int) (pa : Bool) (ds : List Doubt) : Int := if nodeP a b c d e v r t ta pn pm pd pa ds then 1 else 0
theorem ndN_t (a b c d e : Int) (v : List Fact) (r : List Rumor) (t : List Int) (ta pn pm pd : Int) (pa : Bool) (ds : List Doubt) : (nodeP a b c d e v r t ta pn pm pd pa ds) = (ndN a b c d e v r t ta pn pm pd pa ds = 1) := by
  unfold ndN
  by_cases h : nodeP a b c d e v r t ta pn pm pd pa ds <;> simp [h]
theorem nodeP_pn {a b c d e : Int} {v : List Fact} {r : List Rumor} {t : List Int} {ta pn pm pd : Int} {pa : Bool} {ds : List Doubt} (h : nodeP a b c d e v r t ta pn pm pd pa ds) : 0 ≤ pn := by
  unfold nodeP at h
  omega

def tb52 : Tab := fun f => match f with
  | 35 => some conNodeB
  | _ => none

theorem tb52_35 : tb52 35 = some conNodeB := rfl

-- loop.example/g00678/impl.WakeAt hows []
def lp52_0 : AC := .seq (.reg [⟨some 24, .bin .lss (.t 23) (.t 22), none⟩])
      (.seq (.cond (.t 24)
        (.skip)
        (.exit 0))
      (.seq (.block 1 (.seq (.reg [⟨some 25, .ia .doubt (.t 21) (.t 23), none⟩,
          ⟨some 26, .ld true 3 (.t 25), none⟩,
          ⟨some 5, .box (.c (.agg [.int .i64 0, .int .i64 0, .int .i64 0])), none⟩,
          ⟨none, .st 3 (.t 5) (.t 26), none⟩])
        (.reg [⟨some 27, .mv (.t 3), none⟩,
          ⟨some 28, .fa 2 (.t 5), none⟩,
          ⟨some 29, .ld false 1 (.t 28), none⟩,
          ⟨some 30, .mn (.t 27) [(.t 29)], none⟩,
          ⟨some 3, .mv (.t 30), none⟩])))
      (.reg [⟨some 31, .bin .add (.t 23) (.i 1), none⟩,
        ⟨some 23, .mv (.t 31), none⟩])))
def af52 : AF := ⟨33, [.t 2],
  .seq (.reg [⟨some 1, .box (.t 0), none⟩,
    ⟨some 2, .mv (.i 0), none⟩])
  (.seq (.seq (.reg [⟨some 6, .ld true 14 (.t 1), none⟩,
    ⟨some 7, .call 35 [(.t 6)], none⟩,
    ⟨some 8, .un .not (.t 7), none⟩])
  (.cond (.t 8)
    (.seq (.reg [⟨some 2, .mv (.i (-1)), none⟩])
    (.ret))
    (.skip)))
  (.seq (.reg [⟨some 9, .fa 4 (.t 1), none⟩,
    ⟨some 10, .ld false 1 (.t 9), none⟩,
    ⟨some 3, .mv (.t 10), none⟩])
  (.seq (.seq (.reg [⟨some 11, .fa 9 (.t 1), none⟩,
    ⟨some 12, .fa 0 (.t 11), none⟩,
    ⟨some 13, .ld false 1 (.t 12), none⟩,
    ⟨some 14, .bin .neq (.t 13) (.i 0), none⟩])
  (.cond (.t 14)
    (.reg [⟨some 15, .mv (.t 3), none⟩,
      ⟨some 16, .fa 9 (.t 1), none⟩,
      ⟨some 17, .fa 2 (.t 16), none⟩,
      ⟨some 18, .ld false 1 (.t 17), none⟩,
      ⟨some 19, .mn (.t 15) [(.t 18)], none⟩,
      ⟨some 3, .mv (.t 19), none⟩])
    (.skip)))
  (.seq (.seq (.reg [⟨some 20, .fa 13 (.t 1), none⟩,
    ⟨some 21, .ld false 1 (.t 20), none⟩,
    ⟨some 22, .len (.t 21), none⟩,
    ⟨some 23, .mv (.i 0), none⟩])
  (.block 0 (.loop lp52_0)))
  (.seq (.reg [⟨some 32, .mv (.t 3), none⟩,
    ⟨some 2, .mv (.t 32), none⟩])
  (.ret))))))⟩

set_option maxRecDepth 100000 in
set_option maxHeartbeats 4000000 in
theorem does52 (as : List AV) (hok : ok 64 as) : Does tb52 af52 conWake as := by
  cases h : (conWake).run as with
  | none => exact does_none h
  | some out =>
    have h' := h
    simp only [conWake] at h'
    split at h'
    · rename_i a b c d e v r t ta pn pm pd pa ds
      simp only [ok] at hok
      obtain ⟨⟨_, _, _, _, _, ⟨hlv, _⟩, ⟨hlr, _⟩, ⟨hlt, _⟩, _, _, _, _, _, ⟨hld, _⟩, _⟩, _⟩ := hok
      have hpn := nodeP_pn (a := a) (b := b) (c := c) (d := d) (e := e) (v := v) (r := r) (t := t) (ta := ta) (pn := pn) (pm := pm) (pd := pd) (pa := pa) (ds := ds)
      simp only [Option.some.injEq] at h'
      subst h'
      have hmo : (most : Int) = 1099511627776 := rfl
      have hml : (maxLen : Int) = 9223372036854775807 := rfl
      with_reducible refine does_by h fun Q hQ => ?_
      clear h
      dsimp only [af52, conWake, go_sem, Nat.reduceAdd, Nat.reduceMul, Nat.reduceSub, Nat.reduceBEq, Nat.reduceLeDiff, Nat.reduceEqDiff, ↓dreduceIte, toG, tb52_35, conNodeB]
      repeat' first
        | with_reducible refine kon_seq ?_
        | with_reducible refine kon_nil ?_
        | with_reducible refine kon_any ?_ ?_
        | with_reducible exact kon_any_nil
        | with_reducible refine kon_skip ?_
        | with_reducible refine kon_block ?_
        | with_reducible refine kon_ret ?_
        | with_reducible refine kon_exit ?_
        | with_reducible refine kon_past_ret ?_
        | with_reducible refine kon_past_exit ?_
        | with_reducible refine kon_blk_ret ?_
        | with_reducible refine kon_blk_end ?_
        | with_reducible refine kon_blk_exit ?_
        | (with_reducible refine kon_blk_past ?_ ?_
           · decide)
        | with_reducible refine loop_exit ?_
        | with_reducible refine loop_ret ?_
        | with_reducible refine mid_exit ?_
        | with_reducible refine mid_ret ?_
        | ((first | with_reducible refine kon_bin fun R hR => ?_ | with_reducible refine kon_conv fun R hR => ?_)
           dsimp only [go_sem, Nat.reduceAdd, Nat.reduceMul, Nat.reduceSub, Nat.reduceBEq, Nat.reduceLeDiff, Nat.reduceEqDiff, ↓dreduceIte, toG, tb52_35, conNodeB]
           try simp (disch := first | omega | (simp only [List.length_set, List.length_append, List.length_cons, List.length_nil, List.length_replicate]; omega)) only [guardP_T, guardP_pos, iteN, rd_set, List.set_set, List.length_set, eta_fact, eta_rumor, eta_doubt, eta_item, eta_rec, eta_due, look, look0, rd_toNat, wrap64, Int.toNat_natCast, Nat.zero_add, List.take_length, List.drop_zero, and_self, setB_len, true_and, and_true]
           with_reducible refine hR _ ?_
           clear hR R)
        | (with_reducible refine kon_ins fun R hR => ?_
           dsimp only [go_sem, Nat.reduceAdd, Nat.reduceMul, Nat.reduceSub, Nat.reduceBEq, Nat.reduceLeDiff, Nat.reduceEqDiff, ↓dreduceIte, toG, tb52_35, conNodeB]
           first
             | with_reducible refine hR _ ?_
             | (simp (disch := first | omega | (simp only [List.length_set, List.length_append, List.length_cons, List.length_nil, List.length_replicate]; omega)) only [guardP_T, guardP_pos, iteN, rd_set, List.set_set, List.length_set, eta_fact, eta_rumor, eta_doubt, eta_item, eta_rec, eta_due, look, look0, rd_toNat, wrap64, Int.toNat_natCast, Nat.zero_add, List.take_length, List.drop_zero, and_self, setB_len, true_and, and_true]
                try dsimp only [go_sem, Nat.reduceAdd, Nat.reduceMul, Nat.reduceSub, Nat.reduceBEq, Nat.reduceLeDiff, Nat.reduceEqDiff, ↓dreduceIte, toG, tb52_35, conNodeB]
                try simp (disch := first | omega | (simp only [List.length_set, List.length_append, List.length_cons, List.length_nil, List.length_replicate]; omega)) only [guardP_T, guardP_pos, iteN, rd_set, List.set_set, List.length_set, eta_fact, eta_rumor, eta_doubt, eta_item, eta_rec, eta_due, look, look0, rd_toNat, wrap64, Int.toNat_natCast, Nat.zero_add, List.take_length, List.drop_zero, and_self, setB_len, true_and, and_true]
                with_reducible refine hR _ ?_)
           clear hR R)
        | (with_reducible refine kon_g_run ?_ ?_
           · dsimp only [nth] <;> with_reducible rfl)
        | (with_reducible refine kon_g_skip ?_ ?_
           · dsimp only [nth, not_t', not_f'] <;> with_reducible rfl
           dsimp only [go_sem])
        | (with_reducible refine kon_g_undef ?_ ?_
           · dsimp only [nth] <;> with_reducible rfl
           dsimp only [go_sem])
        | (with_reducible refine kon_g fun R hR => ?_
           dsimp only [go_sem, Nat.reduceAdd, Nat.reduceMul, Nat.reduceSub, Nat.reduceBEq, Nat.reduceLeDiff, Nat.reduceEqDiff, ↓dreduceIte, toG, tb52_35, conNodeB]
           split <;> (rename_i hb; with_reducible refine hR _ ?_; clear hR R; try simp only [hb]; try simp only [decide_eq_true_eq, decide_eq_false_iff_not, beq_iff_eq, beq_eq_false_iff_ne, bne_iff_ne, bne_eq_false_iff_eq, Bool.not_eq_true, Bool.not_eq_false, Bool.not_eq_eq_eq_not, Bool.not_true, Bool.not_false, ne_eq, Int.not_lt, Int.not_le, eq_self, not_true_eq_false, not_false_eq_true, decide_true, decide_false, Bool.and_eq_true, Bool.or_eq_true, Bool.and_eq_false_iff, Bool.or_eq_false_iff, gt_iff_lt, ge_iff_le, Bool.false_eq_true, Bool.true_eq_false, reduceCtorEq, or_false, false_or, or_true, true_or, false_and, and_false] at hb; try (exfalso; omega)))
        | (with_reducible refine kon_cond fun R1 R2 h1 h2 => ?_
           dsimp only [go_sem]
           first
             | (with_reducible refine h1 ?_; clear h1 h2 R1 R2)
             | (with_reducible refine h2 ?_; clear h1 h2 R1 R2)
             | ((split <;> rename_i hb <;> first
                 | (with_reducible refine h1 ?_; clear h1 h2 R1 R2; try simp only [hb])
                 | (with_reducible refine h2 ?_; clear h1 h2 R1 R2; try simp only [hb])) <;> (try simp only [decide_eq_true_eq, decide_eq_false_iff_not, beq_iff_eq, beq_eq_false_iff_ne, bne_iff_ne, bne_eq_false_iff_eq, Bool.not_eq_true, Bool.not_eq_false, Bool.not_eq_eq_eq_not, Bool.not_true, Bool.not_false, ne_eq, Int.not_lt, Int.not_le, eq_self, not_true_eq_false, not_false_eq_true, decide_true, decide_false, Bool.and_eq_true, Bool.or_eq_true, Bool.and_eq_false_iff, Bool.or_eq_false_iff, gt_iff_lt, ge_iff_le, Bool.false_eq_true, Bool.true_eq_false, reduceCtorEq, or_false, false_or, or_true, true_or, false_and, and_false] at hb; try (exfalso; omega))))
        | (with_reducible refine kon_rounds (a := lp52_0) [3, 21, 22, 23] (fun n9 s9 => ∃ (i x : Int), ((0 ≤ i) ∧ (i ≤ ds.length) ∧ (x = dueMin (if pn ≠ 0 ∧ pd < e then pd else e) (ds.take i.toNat)) ∧ (nodeP a b c d e v r t ta pn pm pd pa ds)) ∧ n9 = (ds.length - i).toNat ∧ s9.m = [] ∧ s9.t = [nth s9.t 0, nth s9.t 1, nth s9.t 2, .int .i64 x, nth s9.t 4, nth s9.t 5, nth s9.t 6, nth s9.t 7, nth s9.t 8, nth s9.t 9, nth s9.t 10, nth s9.t 11, nth s9.t 12, nth s9.t 13, nth s9.t 14, nth s9.t 15, nth s9.t 16, nth s9.t 17, nth s9.t 18, nth s9.t 19, nth s9.t 20, .sl .doubt ds, .int .i64 ds.length, .int .i64 i, nth s9.t 24, nth s9.t 25, nth s9.t 26, nth s9.t 27, nth s9.t 28, nth s9.t 29, nth s9.t 30, nth s9.t 31, nth s9.t 32]) ?_ ?_
           all_goals first
             | (rintro n9 ⟨t9, m9⟩ ⟨i, x, ⟨hI0, hI1, hI2, hI3⟩, rfl, hm9, ht9⟩
                dsimp only at hm9 ht9
                subst hm9
                rw [ht9]
                clear ht9
                dsimp only [lp52_0])
             | (dsimp only [go_sem, Nat.reduceAdd, Nat.reduceMul, Nat.reduceSub, Nat.reduceBEq, Nat.reduceLeDiff, Nat.reduceEqDiff, ↓dreduceIte, toG, tb52_35, conNodeB]
                refine ⟨_, _, _, ⟨?_, ?_, ?_, ?_⟩, rfl, rfl, rfl⟩))
        | (with_reducible refine loop_again (keep := [3, 21, 22, 23]) ?_
           dsimp only [go_sem, Nat.reduceAdd, Nat.reduceMul, Nat.reduceSub, Nat.reduceBEq, Nat.reduceLeDiff, Nat.reduceEqDiff, ↓dreduceIte, toG, tb52_35, conNodeB]
           refine ⟨_, ?_, _, _, ⟨?_, ?_, ?_, ?_⟩, rfl, rfl, rfl⟩)
      all_goals first
        | (dsimp only [kon]
           with_reducible refine hQ _ _ _ ?_
           dsimp only [kon, endQ, af52, conWake, go_sem, Nat.reduceAdd, Nat.reduceMul, Nat.reduceSub, Nat.reduceBEq, Nat.reduceLeDiff, Nat.reduceEqDiff, ↓dreduceIte, toG, tb52_35, conNodeB]
           try simp (disch := first | omega | (simp only [List.length_set, List.length_append, List.length_cons, List.length_nil, List.length_replicate]; omega)) only [guardP_T, guardP_pos, iteN, rd_set, List.set_set, List.length_set, eta_fact, eta_rumor, eta_doubt, eta_item, eta_rec, eta_due, look, look0, rd_toNat, wrap64, Int.toNat_natCast, Nat.zero_add, List.take_length, List.drop_zero, and_self, setB_len, true_and, and_true]
           try dsimp only [go_sem, Nat.reduceAdd, Nat.reduceMul, Nat.reduceSub, Nat.reduceBEq, Nat.reduceLeDiff, Nat.reduceEqDiff, ↓dreduceIte, toG, tb52_35, conNodeB])
        | skip
      all_goals try first
        | omega
        | (simp; done)
        | (simp; omega)
      all_goals first
        | (simp; done)
        | (have hpn2 := hpn (by assumption)
           simp only [Int.toNat_zero, List.take_zero, dueMin, List.foldl_nil]
           first
             | (rw [if_pos (by omega)]; done)
             | (rw [if_neg (by omega)]; done)
             | (split <;> split <;> omega)
             | (split <;> omega))
        | assumption
        | (rw [dueMin_step hI0 (by omega), ← hI2]; done)
        | (rw [dueMin_step hI0 (by omega), ← hI2]
           first
             | (rw [if_pos (by omega)]; done)
             | (rw [if_neg (by omega)]; done)
             | (split <;> split <;> omega)
             | (split <;> omega))
        | (rw [if_neg (by assumption)]; done)
        | (rw [take_all (by omega)] at hI2
           rw [if_pos (by assumption), wakeI, ← hI2]
           done)
    · simp at h'

def tb51 : Tab := fun f => match f with
  | 33 => some conNodeB
  | _ => none

theorem tb51_33 : tb51 33 = some conNodeB := rfl

-- loop.example/g00678/spec.WakeAt hows []
def lp51_0 : AC := .seq (.seq (.reg [⟨some 24, .mv (.t 4), none⟩,
        ⟨some 25, .fa 13 (.t 1), none⟩,
        ⟨some 26, .ld false 1 (.t 25), none⟩,
        ⟨some 27, .len (.t 26), none⟩,
        ⟨some 28, .bin .lss (.t 24) (.t 27), none⟩])
      (.cond (.t 28)
        (.skip)
        (.exit 0)))
      (.seq (.block 1 (.seq (.reg [⟨some 31, .fa 13 (.t 1), none⟩,
          ⟨some 32, .ld false 1 (.t 31), none⟩,
          ⟨some 33, .mv (.t 4), none⟩,
          ⟨some 34, .ia .doubt (.t 32) (.t 33), none⟩,
          ⟨some 35, .fa 2 (.t 34), none⟩,
          ⟨some 36, .ld false 1 (.t 35), none⟩,
          ⟨some 37, .mv (.t 3), none⟩,
          ⟨some 38, .bin .lss (.t 36) (.t 37), none⟩])
        (.cond (.t 38)
          (.reg [⟨some 39, .fa 13 (.t 1), none⟩,
            ⟨some 40, .ld false 1 (.t 39), none⟩,
            ⟨some 41, .mv (.t 4), none⟩,
            ⟨some 42, .ia .doubt (.t 40) (.t 41), none⟩,
            ⟨some 43, .fa 2 (.t 42), none⟩,
            ⟨some 44, .ld false 1 (.t 43), none⟩,
            ⟨some 3, .mv (.t 44), none⟩])
          (.skip))))
      (.reg [⟨some 29, .mv (.t 4), none⟩,
        ⟨some 30, .bin .add (.t 29) (.i 1), none⟩,
        ⟨some 4, .mv (.t 30), none⟩]))
def af51 : AF := ⟨46, [.t 2],
  .seq (.reg [⟨some 1, .box (.t 0), none⟩,
    ⟨some 2, .mv (.i 0), none⟩])
  (.seq (.seq (.reg [⟨some 5, .ld true 14 (.t 1), none⟩,
    ⟨some 6, .call 33 [(.t 5)], none⟩,
    ⟨some 7, .un .not (.t 6), none⟩])
  (.cond (.t 7)
    (.seq (.reg [⟨some 2, .mv (.i (-1)), none⟩])
    (.ret))
    (.skip)))
  (.seq (.reg [⟨some 8, .fa 4 (.t 1), none⟩,
    ⟨some 9, .ld false 1 (.t 8), none⟩,
    ⟨some 3, .mv (.t 9), none⟩])
  (.seq (.seq (.reg [⟨some 10, .fa 9 (.t 1), none⟩,
    ⟨some 11, .fa 0 (.t 10), none⟩,
    ⟨some 12, .ld false 1 (.t 11), none⟩,
    ⟨some 13, .bin .gtr (.t 12) (.i 0), none⟩,
    ⟨some 14, .mv (.t 13), none⟩,
    ⟨some 15, .fa 9 (.t 1), some (14, true)⟩,
    ⟨some 16, .fa 2 (.t 15), some (14, true)⟩,
    ⟨some 17, .ld false 1 (.t 16), some (14, true)⟩,
    ⟨some 18, .mv (.t 3), some (14, true)⟩,
    ⟨some 19, .bin .lss (.t 17) (.t 18), some (14, true)⟩,
    ⟨some 20, .pick (.t 14) (.t 19) (.b false), none⟩])
  (.cond (.t 20)
    (.reg [⟨some 21, .fa 9 (.t 1), none⟩,
      ⟨some 22, .fa 2 (.t 21), none⟩,
      ⟨some 23, .ld false 1 (.t 22), none⟩,
      ⟨some 3, .mv (.t 23), none⟩])
    (.skip)))
  (.seq (.seq (.reg [⟨some 4, .mv (.i 0), none⟩])
  (.block 0 (.loop lp51_0)))
  (.seq (.reg [⟨some 45, .mv (.t 3), none⟩,
    ⟨some 2, .mv (.t 45), none⟩])
  (.ret))))))⟩

set_option maxRecDepth 100000 in
set_option maxHeartbeats 4000000 in
theorem does51 (as : List AV) (hok : ok 64 as) : Does tb51 af51 conWake as := by
  cases h : (conWake).run as with
  | none => exact does_none h
  | some out =>
    have h' := h
    simp only [conWake] at h'
    split at h'
    · rename_i a b c d e v r t ta pn pm pd pa ds
      simp only [ok] at hok
      obtain ⟨⟨_, _, _, _, _, ⟨hlv, _⟩, ⟨hlr, _⟩, ⟨hlt, _⟩, _, _, _, _, _, ⟨hld, _⟩, _⟩, _⟩ := hok
      have hpn := nodeP_pn (a := a) (b := b) (c := c) (d := d) (e := e) (v := v) (r := r) (t := t) (ta := ta) (pn := pn) (pm := pm) (pd := pd) (pa := pa) (ds := ds)
      simp only [Option.some.injEq] at h'
      subst h'
      have hmo : (most : Int) = 1099511627776 := rfl
      have hml : (maxLen : Int) = 9223372036854775807 := rfl
      with_reducible refine does_by h fun Q hQ => ?_
      clear h
      dsimp only [af51, conWake, go_sem, Nat.reduceAdd, Nat.reduceMul, Nat.reduceSub, Nat.reduceBEq, Nat.reduceLeDiff, Nat.reduceEqDiff, ↓dreduceIte, toG, tb51_33, conNodeB]
      repeat' first
        | with_reducible refine kon_seq ?_
        | with_reducible refine kon_nil ?_
        | with_reducible refine kon_any ?_ ?_
        | with_reducible exact kon_any_nil
        | with_reducible refine kon_skip ?_
        | with_reducible refine kon_block ?_
        | with_reducible refine kon_ret ?_
        | with_reducible refine kon_exit ?_
        | with_reducible refine kon_past_ret ?_
        | with_reducible refine kon_past_exit ?_
        | with_reducible refine kon_blk_ret ?_
        | with_reducible refine kon_blk_end ?_
        | with_reducible refine kon_blk_exit ?_
        | (with_reducible refine kon_blk_past ?_ ?_
           · decide)
        | with_reducible refine loop_exit ?_
        | with_reducible refine loop_ret ?_
        | with_reducible refine mid_exit ?_
        | with_reducible refine mid_ret ?_
        | ((first | with_reducible refine kon_bin fun R hR => ?_ | with_reducible refine kon_conv fun R hR => ?_)
           dsimp only [go_sem, Nat.reduceAdd, Nat.reduceMul, Nat.reduceSub, Nat.reduceBEq, Nat.reduceLeDiff, Nat.reduceEqDiff, ↓dreduceIte, toG, tb51_33, conNodeB]
           try simp (disch := first | omega | (simp only [List.length_set, List.length_append, List.length_cons, List.length_nil, List.length_replicate]; omega)) only [guardP_T, guardP_pos, iteN, rd_set, List.set_set, List.length_set, eta_fact, eta_rumor, eta_doubt, eta_item, eta_rec, eta_due, look, look0, rd_toNat, wrap64, Int.toNat_natCast, Nat.zero_add, List.take_length, List.drop_zero, and_self, setB_len, true_and, and_true]
           with_reducible refine hR _ ?_
           clear hR R)
        | (with_reducible refine kon_ins fun R hR => ?_
           dsimp only [go_sem, Nat.reduceAdd, Nat.reduceMul, Nat.reduceSub, Nat.reduceBEq, Nat.reduceLeDiff, Nat.reduceEqDiff, ↓dreduceIte, toG, tb51_33, conNodeB]
           first
             | with_reducible refine hR _ ?_
             | (simp (disch := first | omega | (simp only [List.length_set, List.length_append, List.length_cons, List.length_nil, List.length_replicate]; omega)) only [guardP_T, guardP_pos, iteN, rd_set, List.set_set, List.length_set, eta_fact, eta_rumor, eta_doubt, eta_item, eta_rec, eta_due, look, look0, rd_toNat, wrap64, Int.toNat_natCast, Nat.zero_add, List.take_length, List.drop_zero, and_self, setB_len, true_and, and_true]
                try dsimp only [go_sem, Nat.reduceAdd, Nat.reduceMul, Nat.reduceSub, Nat.reduceBEq, Nat.reduceLeDiff, Nat.reduceEqDiff, ↓dreduceIte, toG, tb51_33, conNodeB]
                try simp (disch := first | omega | (simp only [List.length_set, List.length_append, List.length_cons, List.length_nil, List.length_replicate]; omega)) only [guardP_T, guardP_pos, iteN, rd_set, List.set_set, List.length_set, eta_fact, eta_rumor, eta_doubt, eta_item, eta_rec, eta_due, look, look0, rd_toNat, wrap64, Int.toNat_natCast, Nat.zero_add, List.take_length, List.drop_zero, and_self, setB_len, true_and, and_true]
                with_reducible refine hR _ ?_)
           clear hR R)
        | (with_reducible refine kon_g_run ?_ ?_
           · dsimp only [nth] <;> with_reducible rfl)
        | (with_reducible refine kon_g_skip ?_ ?_
           · dsimp only [nth, not_t', not_f'] <;> with_reducible rfl
           dsimp only [go_sem])
        | (with_reducible refine kon_g_undef ?_ ?_
           · dsimp only [nth] <;> with_reducible rfl
           dsimp only [go_sem])
        | (with_reducible refine kon_g fun R hR => ?_
           dsimp only [go_sem, Nat.reduceAdd, Nat.reduceMul, Nat.reduceSub, Nat.reduceBEq, Nat.reduceLeDiff, Nat.reduceEqDiff, ↓dreduceIte, toG, tb51_33, conNodeB]
           split <;> (rename_i hb; with_reducible refine hR _ ?_; clear hR R; try simp only [hb]; try simp only [decide_eq_true_eq, decide_eq_false_iff_not, beq_iff_eq, beq_eq_false_iff_ne, bne_iff_ne, bne_eq_false_iff_eq, Bool.not_eq_true, Bool.not_eq_false, Bool.not_eq_eq_eq_not, Bool.not_true, Bool.not_false, ne_eq, Int.not_lt, Int.not_le, eq_self, not_true_eq_false, not_false_eq_true, decide_true, decide_false, Bool.and_eq_true, Bool.or_eq_true, Bool.and_eq_false_iff, Bool.or_eq_false_iff, gt_iff_lt, ge_iff_le, Bool.false_eq_true, Bool.true_eq_false, reduceCtorEq, or_false, false_or, or_true, true_or, false_and, and_false] at hb; try (exfalso; omega)))
        | (with_reducible refine kon_cond fun R1 R2 h1 h2 => ?_
           dsimp only [go_sem]
           first
             | (with_reducible refine h1 ?_; clear h1 h2 R1 R2)
             | (with_reducible refine h2 ?_; clear h1 h2 R1 R2)
             | ((split <;> rename_i hb <;> first
                 | (with_reducible refine h1 ?_; clear h1 h2 R1 R2; try simp only [hb])
                 | (with_reducible refine h2 ?_; clear h1 h2 R1 R2; try simp only [hb])) <;> (try simp only [decide_eq_true_eq, decide_eq_false_iff_not, beq_iff_eq, beq_eq_false_iff_ne, bne_iff_ne, bne_eq_false_iff_eq, Bool.not_eq_true, Bool.not_eq_false, Bool.not_eq_eq_eq_not, Bool.not_true, Bool.not_false, ne_eq, Int.not_lt, Int.not_le, eq_self, not_true_eq_false, not_false_eq_true, decide_true, decide_false, Bool.and_eq_true, Bool.or_eq_true, Bool.and_eq_false_iff, Bool.or_eq_false_iff, gt_iff_lt, ge_iff_le, Bool.false_eq_true, Bool.true_eq_false, reduceCtorEq, or_false, false_or, or_true, true_or, false_and, and_false] at hb; try (exfalso; omega))))
        | (with_reducible refine kon_rounds (a := lp51_0) [1, 3, 4] (fun n9 s9 => ∃ (i x : Int), ((0 ≤ i) ∧ (i ≤ ds.length) ∧ (x = dueMin (if pn ≠ 0 ∧ pd < e then pd else e) (ds.take i.toNat)) ∧ (nodeP a b c d e v r t ta pn pm pd pa ds)) ∧ n9 = (ds.length - i).toNat ∧ s9.m = [.cells [.int .i64 a, .int .i64 b, .int .i64 c, .int .i64 d, .int .i64 e, .sl .fact v, .sl .rumor r, .sl .int t, .int .i64 ta, .int .i64 pn, .int .i64 pm, .int .i64 pd, .bool pa, .sl .doubt ds]] ∧ s9.t = [nth s9.t 0, .ptr 0 0, nth s9.t 2, .int .i64 x, .int .i64 i, nth s9.t 5, nth s9.t 6, nth s9.t 7, nth s9.t 8, nth s9.t 9, nth s9.t 10, nth s9.t 11, nth s9.t 12, nth s9.t 13, nth s9.t 14, nth s9.t 15, nth s9.t 16, nth s9.t 17, nth s9.t 18, nth s9.t 19, nth s9.t 20, nth s9.t 21, nth s9.t 22, nth s9.t 23, nth s9.t 24, nth s9.t 25, nth s9.t 26, nth s9.t 27, nth s9.t 28, nth s9.t 29, nth s9.t 30, nth s9.t 31, nth s9.t 32, nth s9.t 33, nth s9.t 34, nth s9.t 35, nth s9.t 36, nth s9.t 37, nth s9.t 38, nth s9.t 39, nth s9.t 40, nth s9.t 41, nth s9.t 42, nth s9.t 43, nth s9.t 44, nth s9.t 45]) ?_ ?_
           all_goals first
             | (rintro n9 ⟨t9, m9⟩ ⟨i, x, ⟨hI0, hI1, hI2, hI3⟩, rfl, hm9, ht9⟩
                dsimp only at hm9 ht9
                subst hm9
                rw [ht9]
                clear ht9
                dsimp only [lp51_0])
             | (dsimp only [go_sem, Nat.reduceAdd, Nat.reduceMul, Nat.reduceSub, Nat.reduceBEq, Nat.reduceLeDiff, Nat.reduceEqDiff, ↓dreduceIte, toG, tb51_33, conNodeB]
                refine ⟨_, _, _, ⟨?_, ?_, ?_, ?_⟩, rfl, rfl, rfl⟩))
        | (with_reducible refine loop_again (keep := [1, 3, 4]) ?_
           dsimp only [go_sem, Nat.reduceAdd, Nat.reduceMul, Nat.reduceSub, Nat.reduceBEq, Nat.reduceLeDiff, Nat.reduceEqDiff, ↓dreduceIte, toG, tb51_33, conNodeB]
           refine ⟨_, ?_, _, _, ⟨?_, ?_, ?_, ?_⟩, rfl, rfl, rfl⟩)
      all_goals first
        | (dsimp only [kon]
           with_reducible refine hQ _ _ _ ?_
           dsimp only [kon, endQ, af51, conWake, go_sem, Nat.reduceAdd, Nat.reduceMul, Nat.reduceSub, Nat.reduceBEq, Nat.reduceLeDiff, Nat.reduceEqDiff, ↓dreduceIte, toG, tb51_33, conNodeB]
           try simp (disch := first | omega | (simp only [List.length_set, List.length_append, List.length_cons, List.length_nil, List.length_replicate]; omega)) only [guardP_T, guardP_pos, iteN, rd_set, List.set_set, List.length_set, eta_fact, eta_rumor, eta_doubt, eta_item, eta_rec, eta_due, look, look0, rd_toNat, wrap64, Int.toNat_natCast, Nat.zero_add, List.take_length, List.drop_zero, and_self, setB_len, true_and, and_true]
           try dsimp only [go_sem, Nat.reduceAdd, Nat.reduceMul, Nat.reduceSub, Nat.reduceBEq, Nat.reduceLeDiff, Nat.reduceEqDiff, ↓dreduceIte, toG, tb51_33, conNodeB])
        | skip
      all_goals try first
        | omega
        | (simp; done)
        | (simp; omega)
      all_goals first
        | (simp; done)
        | (have hpn2 := hpn (by assumption)
           simp only [Int.toNat_zero, List.take_zero, dueMin, List.foldl_nil]
           first
             | (rw [if_pos (by omega)]; done)
             | (rw [if_neg (by omega)]; done)
             | (split <;> split <;> omega)
             | (split <;> omega))
        | assumption
        | (rw [dueMin_step hI0 (by omega), ← hI2]; done)
        | (rw [dueMin_step hI0 (by omega), ← hI2]
           first
             | (rw [if_pos (by omega)]; done)
             | (rw [if_neg (by omega)]; done)
             | (split <;> split <;> omega)
             | (split <;> omega))
        | (rw [if_neg (by assumption)]; done)
        | (rw [take_all (by omega)] at hI2
           rw [if_pos (by assumption), wakeI, ← hI2]
           done)
    · simp at h'

end Go.Proofs.Ytnghlmogcbmlfaa
