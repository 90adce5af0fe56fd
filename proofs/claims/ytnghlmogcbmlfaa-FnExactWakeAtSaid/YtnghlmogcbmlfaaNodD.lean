/- Nodes: right ones. -/
import Derived.Test.YtnghlmogcbmlfaaNodC
namespace Go.Proofs.Ytnghlmogcbmlfaa
set_option linter.unusedVariables false
set_option linter.unusedSimpArgs false
set_option linter.unnecessarySimpa false

def bN (b : Bool) : Int := if b = true then 1 else 0
theorem bN_t (b : Bool) : (b = true) = (bN b = 1) := by cases b <;> simp [bN]
theorem bN_f (b : Bool) : (b = false) = (bN b = 0) := by cases b <;> simp [bN]

def nodeP (a b c d e : Int) (v : List Fact) (r : List Rumor) (t : List Int) (ta pn pm pd : Int) (pa : Bool) (ds : List Doubt) : Prop :=
  (1 ≤ a ∧ a ≤ 6) ∧ (0 ≤ b ∧ b ≤ 1000000) ∧ (0 ≤ c ∧ c ≤ 1000000) ∧ (0 ≤ e ∧ e ≤ 1000000) ∧ (0 ≤ d ∧ d ≤ 2147483647) ∧ viewN v = 1 ∧ rumN r = 1 ∧ turnN t = 1 ∧ (0 ≤ ta ∧ ta ≤ t.length) ∧ douN ds a = 1 ∧
  ((atF v a).status = 1 ∨ (atF v a).status = 3) ∧ (atF v a).inc = b ∧ ((pn = 0 ∧ pm = 0 ∧ pd = 0 ∧ bN pa = 0) ∨ ((1 ≤ pn ∧ pn ≤ 6) ∧ pn ≠ a ∧ (0 ≤ pm ∧ pm ≤ 1000000) ∧ (0 ≤ pd ∧ pd ≤ 1000000)))

instance nodeP_dec (a b c d e : Int) (v : List Fact) (r : List Rumor) (t : List Int) (ta pn pm pd : Int) (pa : Bool) (ds : List Doubt) : Decidable (nodeP a b c d e v r t ta pn pm pd pa ds) := by
  unfold nodeP
  infer_instance

theorem inr_iff (a lo hi : Int) : (inr a lo hi = true) = (lo ≤ a ∧ a ≤ hi) := by simp [inr]
theorem inr_no (a lo hi : Int) : (inr a lo hi = false) = (a < lo ∨ hi < a) := by
  simp [inr]
  omega

def conOther : Con := ⟨[.v, .v], .v, fun as => match as with
  | [.ip [.int .i64 a, .int .i64 b, .int .i64 c, .int .i64 d, .int .i64 e, .sl .fact v, .sl .rumor r, .sl .int t, .int .i64 ta, .int .i64 pn, .int .i64 pm, .int .i64 pd, .bool pa, .sl .doubt ds] 0, .int .i64 k] => some (.bool (inr k 1 6 && !(k == a)), [])
  | _ => none⟩

def conNodeB : Con := ⟨[.agg [.v, .v, .v, .v, .v, .imm .fact, .imm .rumor, .imm .int, .v, .v, .v, .v, .v, .imm .doubt]], .v, fun as => match as with
  | [.agg [.int .i64 a, .int .i64 b, .int .i64 c, .int .i64 d, .int .i64 e, .sl .fact v, .sl .rumor r, .sl .int t, .int .i64 ta, .int .i64 pn, .int .i64 pm, .int .i64 pd, .bool pa, .sl .doubt ds]] => some (.bool (decide (nodeP a b c d e v r t ta pn pm pd pa ds)), [])
  | _ => none⟩

theorem douP_iff (l : List Doubt) (n i : Int) : (douP l n i = true) = (((1 ≤ (rd l i).node ∧ (rd l i).node ≤ 6) ∧ (rd l i).node ≠ n) ∧ (0 ≤ (rd l i).inc ∧ (rd l i).inc ≤ 1000000) ∧ (0 ≤ (rd l i).due ∧ (rd l i).due ≤ 1000000) ∧ (i ≤ 0 ∨ (rd l (i - 1)).node < (rd l i).node)) := by
  simp [douP, inr]

theorem dou_no (l : List Doubt) (n i : Int) (h0 : 0 ≤ i) (h1 : i < l.length) (h : ¬(douP l n i = true)) : douN l n = 0 := by
  rw [← douN_no, douOk, allTo_no h0 (by omega) (by simpa using h), Bool.and_false]

theorem dou_long (l : List Doubt) (n : Int) (h : 6 < l.length) : douN l n = 0 := by
  rw [← douN_no, douOk, decide_eq_false (by omega), Bool.false_and]

theorem dou_yes (l : List Doubt) (n i : Int) (h : l.length ≤ 6) (hi : (l.length : Int) ≤ i) (h2 : allTo (douP l n) i.toNat = true) (h3 : i ≤ l.length) : douN l n = 1 := by
  rw [← douN_iff, douOk, decide_eq_true h, show l.length = i.toNat by omega, h2]
  rfl

def tb103 : Tab := fun f => match f with
  | 77 => some conNode
  | _ => none

theorem tb103_77 : tb103 77 = some conNode := rfl

-- (*loop.example/g00678/impl.Node).isOther hows []
def af103 : AF := ⟨15, [.t 4],
  .seq (.reg [⟨some 4, .mv (.b false), none⟩])
  (.seq (.reg [⟨some 5, .mv (.t 1), none⟩,
    ⟨some 6, .call 77 [(.t 5)], none⟩,
    ⟨some 7, .mv (.t 6), none⟩,
    ⟨some 8, .mv (.t 1), some (7, true)⟩,
    ⟨some 9, .mv (.t 0), some (7, true)⟩,
    ⟨some 10, .nc (.t 9), some (7, true)⟩,
    ⟨some 11, .fa 0 (.t 10), some (7, true)⟩,
    ⟨some 12, .ld false 1 (.t 11), some (7, true)⟩,
    ⟨some 13, .bin .neq (.t 8) (.t 12), some (7, true)⟩,
    ⟨some 14, .pick (.t 7) (.t 13) (.b false), none⟩,
    ⟨some 4, .mv (.t 14), none⟩])
  (.ret))⟩

set_option maxHeartbeats 4000000 in
theorem does103 (as : List AV) (hok : ok 64 as) : Does tb103 af103 conOther as := by
  cases h : (conOther).run as with
  | none => exact does_none h
  | some out =>
    have h' := h
    simp only [conOther] at h'
    split at h'
    · rename_i a b c d e v r t ta pn pm pd pa ds k
      simp only [Option.some.injEq] at h'
      subst h'
      have hmo : (most : Int) = 1099511627776 := rfl
      have hml : (maxLen : Int) = 9223372036854775807 := rfl
      with_reducible refine does_by h fun Q hQ => ?_
      clear h
      dsimp only [af103, conOther, go_sem, Nat.reduceAdd, Nat.reduceMul, Nat.reduceSub, Nat.reduceBEq, Nat.reduceLeDiff, Nat.reduceEqDiff, ↓dreduceIte, toG, tb103_77, conNode]
      repeat' first
        | with_reducible refine kon_seq ?_
        | with_reducible refine kon_nil ?_
        | with_reducible refine kon_any ?_ ?_
        | with_reducible exact kon_any_nil
        | with_reducible refine kon_skip ?_
        | with_reducible refine kon_block ?_
        | with_reducible refine kon_ret ?_
        | with_reducible refine kon_exit ?_
        | with_reducible refine kon_past_ret ?_
        | with_reducible refine kon_past_exit ?_
        | with_reducible refine kon_blk_ret ?_
        | with_reducible refine kon_blk_end ?_
        | with_reducible refine kon_blk_exit ?_
        | (with_reducible refine kon_blk_past ?_ ?_
           · decide)
        | with_reducible refine loop_exit ?_
        | with_reducible refine loop_ret ?_
        | with_reducible refine mid_exit ?_
        | with_reducible refine mid_ret ?_
        | ((first | with_reducible refine kon_bin fun R hR => ?_ | with_reducible refine kon_conv fun R hR => ?_)
           dsimp only [go_sem, Nat.reduceAdd, Nat.reduceMul, Nat.reduceSub, Nat.reduceBEq, Nat.reduceLeDiff, Nat.reduceEqDiff, ↓dreduceIte, toG, tb103_77, conNode]
           try simp (disch := first | omega | (simp only [List.length_set, List.length_append, List.length_cons, List.length_nil, List.length_replicate]; omega)) only [guardP_T, guardP_pos, iteN, rd_set, List.set_set, List.length_set, eta_fact, eta_rumor, eta_doubt, eta_item, eta_rec, eta_due, look, look0, rd_toNat, wrap64, Int.toNat_natCast, Nat.zero_add, List.take_length, List.drop_zero, and_self, setB_len, true_and, and_true]
           with_reducible refine hR _ ?_
           clear hR R)
        | (with_reducible refine kon_ins fun R hR => ?_
           dsimp only [go_sem, Nat.reduceAdd, Nat.reduceMul, Nat.reduceSub, Nat.reduceBEq, Nat.reduceLeDiff, Nat.reduceEqDiff, ↓dreduceIte, toG, tb103_77, conNode]
           first
             | with_reducible refine hR _ ?_
             | (simp (disch := first | omega | (simp only [List.length_set, List.length_append, List.length_cons, List.length_nil, List.length_replicate]; omega)) only [guardP_T, guardP_pos, iteN, rd_set, List.set_set, List.length_set, eta_fact, eta_rumor, eta_doubt, eta_item, eta_rec, eta_due, look, look0, rd_toNat, wrap64, Int.toNat_natCast, Nat.zero_add, List.take_length, List.drop_zero, and_self, setB_len, true_and, and_true]
                try dsimp only [go_sem, Nat.reduceAdd, Nat.reduceMul, Nat.reduceSub, Nat.reduceBEq, Nat.reduceLeDiff, Nat.reduceEqDiff, ↓dreduceIte, toG, tb103_77, conNode]
                try simp (disch := first | omega | (simp only [List.length_set, List.length_append, List.length_cons, List.length_nil, List.length_replicate]; omega)) only [guardP_T, guardP_pos, iteN, rd_set, List.set_set, List.length_set, eta_fact, eta_rumor, eta_doubt, eta_item, eta_rec, eta_due, look, look0, rd_toNat, wrap64, Int.toNat_natCast, Nat.zero_add, List.take_length, List.drop_zero, and_self, setB_len, true_and, and_true]
                with_reducible refine hR _ ?_)
           clear hR R)
        | (with_reducible refine kon_g_run ?_ ?_
           · dsimp only [nth] <;> with_reducible rfl)
        | (with_reducible refine kon_g_skip ?_ ?_
           · dsimp only [nth, not_t', not_f'] <;> with_reducible rfl
           dsimp only [go_sem])
        | (with_reducible refine kon_g_undef ?_ ?_
           · dsimp only [nth] <;> with_reducible rfl
           dsimp only [go_sem])
        | (with_reducible refine kon_g fun R hR => ?_
           dsimp only [go_sem, Nat.reduceAdd, Nat.reduceMul, Nat.reduceSub, Nat.reduceBEq, Nat.reduceLeDiff, Nat.reduceEqDiff, ↓dreduceIte, toG, tb103_77, conNode]
           split <;> (rename_i hb; with_reducible refine hR _ ?_; clear hR R; try simp only [hb]; try simp only [decide_eq_true_eq, decide_eq_false_iff_not, beq_iff_eq, beq_eq_false_iff_ne, bne_iff_ne, bne_eq_false_iff_eq, Bool.not_eq_true, Bool.not_eq_false, Bool.not_eq_eq_eq_not, Bool.not_true, Bool.not_false, ne_eq, Int.not_lt, Int.not_le, eq_self, not_true_eq_false, not_false_eq_true, decide_true, decide_false, Bool.and_eq_true, Bool.or_eq_true, Bool.and_eq_false_iff, Bool.or_eq_false_iff, gt_iff_lt, ge_iff_le, Bool.false_eq_true, Bool.true_eq_false, reduceCtorEq, or_false, false_or, or_true, true_or, false_and, and_false] at hb; try (exfalso; omega)))
        | (with_reducible refine kon_cond fun R1 R2 h1 h2 => ?_
           dsimp only [go_sem]
           first
             | (with_reducible refine h1 ?_; clear h1 h2 R1 R2)
             | (with_reducible refine h2 ?_; clear h1 h2 R1 R2)
             | ((split <;> rename_i hb <;> first
                 | (with_reducible refine h1 ?_; clear h1 h2 R1 R2; try simp only [hb])
                 | (with_reducible refine h2 ?_; clear h1 h2 R1 R2; try simp only [hb])) <;> (try simp only [decide_eq_true_eq, decide_eq_false_iff_not, beq_iff_eq, beq_eq_false_iff_ne, bne_iff_ne, bne_eq_false_iff_eq, Bool.not_eq_true, Bool.not_eq_false, Bool.not_eq_eq_eq_not, Bool.not_true, Bool.not_false, ne_eq, Int.not_lt, Int.not_le, eq_self, not_true_eq_false, not_false_eq_true, decide_true, decide_false, Bool.and_eq_true, Bool.or_eq_true, Bool.and_eq_false_iff, Bool.or_eq_false_iff, gt_iff_lt, ge_iff_le, Bool.false_eq_true, Bool.true_eq_false, reduceCtorEq, or_false, false_or, or_true, true_or, false_and, and_false] at hb; try (exfalso; omega))))
      all_goals first
        | (dsimp only [kon]
           with_reducible refine hQ _ _ _ ?_
           dsimp only [kon, endQ, af103, conOther, go_sem, Nat.reduceAdd, Nat.reduceMul, Nat.reduceSub, Nat.reduceBEq, Nat.reduceLeDiff, Nat.reduceEqDiff, ↓dreduceIte, toG, tb103_77, conNode]
           try simp (disch := first | omega | (simp only [List.length_set, List.length_append, List.length_cons, List.length_nil, List.length_replicate]; omega)) only [guardP_T, guardP_pos, iteN, rd_set, List.set_set, List.length_set, eta_fact, eta_rumor, eta_doubt, eta_item, eta_rec, eta_due, look, look0, rd_toNat, wrap64, Int.toNat_natCast, Nat.zero_add, List.take_length, List.drop_zero, and_self, setB_len, true_and, and_true]
           try dsimp only [go_sem, Nat.reduceAdd, Nat.reduceMul, Nat.reduceSub, Nat.reduceBEq, Nat.reduceLeDiff, Nat.reduceEqDiff, ↓dreduceIte, toG, tb103_77, conNode])
        | skip
      all_goals try first
        | omega
        | (simp; done)
        | (simp; omega)
      all_goals first
        | (simp_all; done)
        | (simp [hb, bne]; done)
    · simp at h'

def tb33 : Tab := fun f => match f with
  | 75 => some conNode
  | 85 => some conTime
  | 86 => some conSeed
  | 87 => some conView
  | 88 => some conRum
  | 89 => some conTurn
  | 90 => some conDou
  | 91 => some conAtF
  | _ => none

theorem tb33_75 : tb33 75 = some conNode := rfl
theorem tb33_85 : tb33 85 = some conTime := rfl
theorem tb33_86 : tb33 86 = some conSeed := rfl
theorem tb33_87 : tb33 87 = some conView := rfl
theorem tb33_88 : tb33 88 = some conRum := rfl
theorem tb33_89 : tb33 89 = some conTurn := rfl
theorem tb33_90 : tb33 90 = some conDou := rfl
theorem tb33_91 : tb33 91 = some conAtF := rfl

-- loop.example/g00678/spec.NodeRight hows []
def af33 : AF := ⟨106, [.t 2],
  .seq (.reg [⟨some 1, .box (.t 0), none⟩,
    ⟨some 2, .mv (.b false), none⟩])
  (.seq (.seq (.reg [⟨some 5, .fa 0 (.t 1), none⟩,
    ⟨some 6, .ld false 1 (.t 5), none⟩,
    ⟨some 7, .call 75 [(.t 6)], none⟩,
    ⟨some 8, .un .not (.t 7), none⟩,
    ⟨some 9, .mv (.t 8), none⟩,
    ⟨some 10, .fa 1 (.t 1), some (9, false)⟩,
    ⟨some 11, .ld false 1 (.t 10), some (9, false)⟩,
    ⟨some 12, .call 85 [(.t 11)], some (9, false)⟩,
    ⟨some 13, .un .not (.t 12), some (9, false)⟩,
    ⟨some 14, .pick (.t 9) (.b true) (.t 13), none⟩,
    ⟨some 15, .mv (.t 14), none⟩,
    ⟨some 16, .fa 2 (.t 1), some (15, false)⟩,
    ⟨some 17, .ld false 1 (.t 16), some (15, false)⟩,
    ⟨some 18, .call 85 [(.t 17)], some (15, false)⟩,
    ⟨some 19, .un .not (.t 18), some (15, false)⟩,
    ⟨some 20, .pick (.t 15) (.b true) (.t 19), none⟩,
    ⟨some 21, .mv (.t 20), none⟩,
    ⟨some 22, .fa 4 (.t 1), some (21, false)⟩,
    ⟨some 23, .ld false 1 (.t 22), some (21, false)⟩,
    ⟨some 24, .call 85 [(.t 23)], some (21, false)⟩,
    ⟨some 25, .un .not (.t 24), some (21, false)⟩,
    ⟨some 26, .pick (.t 21) (.b true) (.t 25), none⟩,
    ⟨some 27, .mv (.t 26), none⟩,
    ⟨some 28, .fa 3 (.t 1), some (27, false)⟩,
    ⟨some 29, .ld false 1 (.t 28), some (27, false)⟩,
    ⟨some 30, .call 86 [(.t 29)], some (27, false)⟩,
    ⟨some 31, .un .not (.t 30), some (27, false)⟩,
    ⟨some 32, .pick (.t 27) (.b true) (.t 31), none⟩,
    ⟨some 33, .mv (.t 32), none⟩,
    ⟨some 34, .fa 5 (.t 1), some (33, false)⟩,
    ⟨some 35, .ld false 1 (.t 34), some (33, false)⟩,
    ⟨some 36, .call 87 [(.t 35)], some (33, false)⟩,
    ⟨some 37, .un .not (.t 36), some (33, false)⟩,
    ⟨some 38, .pick (.t 33) (.b true) (.t 37), none⟩,
    ⟨some 39, .mv (.t 38), none⟩,
    ⟨some 40, .fa 6 (.t 1), some (39, false)⟩,
    ⟨some 41, .ld false 1 (.t 40), some (39, false)⟩,
    ⟨some 42, .call 88 [(.t 41)], some (39, false)⟩,
    ⟨some 43, .un .not (.t 42), some (39, false)⟩,
    ⟨some 44, .pick (.t 39) (.b true) (.t 43), none⟩,
    ⟨some 45, .mv (.t 44), none⟩,
    ⟨some 46, .fa 7 (.t 1), some (45, false)⟩,
    ⟨some 47, .ld true 2 (.t 46), some (45, false)⟩,
    ⟨some 48, .call 89 [(.t 47)], some (45, false)⟩,
    ⟨some 49, .un .not (.t 48), some (45, false)⟩,
    ⟨some 50, .pick (.t 45) (.b true) (.t 49), none⟩,
    ⟨some 51, .mv (.t 50), none⟩,
    ⟨some 52, .fa 13 (.t 1), some (51, false)⟩,
    ⟨some 53, .ld false 1 (.t 52), some (51, false)⟩,
    ⟨some 54, .fa 0 (.t 1), some (51, false)⟩,
    ⟨some 55, .ld false 1 (.t 54), some (51, false)⟩,
    ⟨some 56, .call 90 [(.t 53), (.t 55)], some (51, false)⟩,
    ⟨some 57, .un .not (.t 56), some (51, false)⟩,
    ⟨some 58, .pick (.t 51) (.b true) (.t 57), none⟩])
  (.cond (.t 58)
    (.seq (.reg [⟨some 2, .mv (.b false), none⟩])
    (.ret))
    (.skip)))
  (.seq (.reg [⟨some 59, .fa 5 (.t 1), none⟩,
    ⟨some 60, .ld false 1 (.t 59), none⟩,
    ⟨some 61, .fa 0 (.t 1), none⟩,
    ⟨some 62, .ld false 1 (.t 61), none⟩,
    ⟨some 63, .call 91 [(.t 60), (.t 62)], none⟩,
    ⟨some 3, .box (.c (.agg [.int .i64 0, .int .i64 0, .int .i64 0])), none⟩,
    ⟨none, .st 3 (.t 3) (.t 63), none⟩])
  (.seq (.seq (.reg [⟨some 64, .fa 0 (.t 3), none⟩,
    ⟨some 65, .ld false 1 (.t 64), none⟩,
    ⟨some 66, .bin .eql (.t 65) (.i 0), none⟩,
    ⟨some 67, .mv (.t 66), none⟩,
    ⟨some 68, .fa 1 (.t 3), some (67, false)⟩,
    ⟨some 69, .ld false 1 (.t 68), some (67, false)⟩,
    ⟨some 70, .fa 1 (.t 1), some (67, false)⟩,
    ⟨some 71, .ld false 1 (.t 70), some (67, false)⟩,
    ⟨some 72, .bin .neq (.t 69) (.t 71), some (67, false)⟩,
    ⟨some 73, .pick (.t 67) (.b true) (.t 72), none⟩,
    ⟨some 74, .mv (.t 73), none⟩,
    ⟨some 75, .fa 2 (.t 3), some (74, false)⟩,
    ⟨some 76, .ld false 1 (.t 75), some (74, false)⟩,
    ⟨some 77, .bin .eql (.t 76) (.i 2), some (74, false)⟩,
    ⟨some 78, .pick (.t 74) (.b true) (.t 77), none⟩])
  (.cond (.t 78)
    (.seq (.reg [⟨some 2, .mv (.b false), none⟩])
    (.ret))
    (.skip)))
  (.seq (.reg [⟨some 79, .fa 9 (.t 1), none⟩,
    ⟨some 80, .ld true 4 (.t 79), none⟩,
    ⟨some 4, .box (.c (.agg [.int .i64 0, .int .i64 0, .int .i64 0, .bool false])), none⟩,
    ⟨none, .st 4 (.t 4) (.t 80), none⟩])
  (.seq (.reg [⟨some 81, .ld true 4 (.t 4), none⟩,
    ⟨some 82, .build [.int .i64 0, .int .i64 0, .int .i64 0, .bool false] [], none⟩,
    ⟨some 83, .eqa false [.i, .i, .i, .b] (.t 81) (.t 82), none⟩,
    ⟨some 84, .mv (.t 83), none⟩,
    ⟨some 85, .fa 0 (.t 4), some (84, false)⟩,
    ⟨some 86, .ld false 1 (.t 85), some (84, false)⟩,
    ⟨some 87, .call 75 [(.t 86)], some (84, false)⟩,
    ⟨some 88, .mv (.t 87), some (84, false)⟩,
    ⟨some 89, .fa 0 (.t 4), some (88, true)⟩,
    ⟨some 90, .ld false 1 (.t 89), some (88, true)⟩,
    ⟨some 91, .fa 0 (.t 1), some (88, true)⟩,
    ⟨some 92, .ld false 1 (.t 91), some (88, true)⟩,
    ⟨some 93, .bin .neq (.t 90) (.t 92), some (88, true)⟩,
    ⟨some 94, .pick (.t 88) (.t 93) (.b false), some (84, false)⟩,
    ⟨some 95, .mv (.t 94), some (84, false)⟩,
    ⟨some 96, .fa 1 (.t 4), some (95, true)⟩,
    ⟨some 97, .ld false 1 (.t 96), some (95, true)⟩,
    ⟨some 98, .call 85 [(.t 97)], some (95, true)⟩,
    ⟨some 99, .pick (.t 95) (.t 98) (.b false), some (84, false)⟩,
    ⟨some 100, .mv (.t 99), some (84, false)⟩,
    ⟨some 101, .fa 2 (.t 4), some (100, true)⟩,
    ⟨some 102, .ld false 1 (.t 101), some (100, true)⟩,
    ⟨some 103, .call 85 [(.t 102)], some (100, true)⟩,
    ⟨some 104, .pick (.t 100) (.t 103) (.b false), some (84, false)⟩,
    ⟨some 105, .pick (.t 84) (.b true) (.t 104), none⟩,
    ⟨some 2, .mv (.t 105), none⟩])
  (.ret))))))⟩

set_option maxHeartbeats 4000000 in
theorem does33 (as : List AV) (hok : ok 64 as) : Does tb33 af33 conNodeB as := by
  cases h : (conNodeB).run as with
  | none => exact does_none h
  | some out =>
    have h' := h
    simp only [conNodeB] at h'
    split at h'
    · rename_i a b c d e v r t ta pn pm pd pa ds
      simp only [ok] at hok
      obtain ⟨⟨_, _, _, _, _, ⟨hlv, _⟩, ⟨hlr, _⟩, ⟨hlt, _⟩, _, _, _, _, _, ⟨hld, _⟩, _⟩, _⟩ := hok
      have hat := at_facts (l := v) a
      have hpt := bN_t pa
      have hpf := bN_f pa
      simp only [Option.some.injEq] at h'
      subst h'
      have hmo : (most : Int) = 1099511627776 := rfl
      have hml : (maxLen : Int) = 9223372036854775807 := rfl
      with_reducible refine does_by h fun Q hQ => ?_
      clear h
      dsimp only [af33, conNodeB, go_sem, Nat.reduceAdd, Nat.reduceMul, Nat.reduceSub, Nat.reduceBEq, Nat.reduceLeDiff, Nat.reduceEqDiff, ↓dreduceIte, toG, tb33_75, tb33_85, tb33_86, tb33_87, tb33_88, tb33_89, tb33_90, tb33_91, conAtF, conDou, conNode, conRum, conSeed, conTime, conTurn, conView]
      repeat' first
        | with_reducible refine kon_seq ?_
        | with_reducible refine kon_nil ?_
        | with_reducible refine kon_any ?_ ?_
        | with_reducible exact kon_any_nil
        | with_reducible refine kon_skip ?_
        | with_reducible refine kon_block ?_
        | with_reducible refine kon_ret ?_
        | with_reducible refine kon_exit ?_
        | with_reducible refine kon_past_ret ?_
        | with_reducible refine kon_past_exit ?_
        | with_reducible refine kon_blk_ret ?_
        | with_reducible refine kon_blk_end ?_
        | with_reducible refine kon_blk_exit ?_
        | (with_reducible refine kon_blk_past ?_ ?_
           · decide)
        | with_reducible refine loop_exit ?_
        | with_reducible refine loop_ret ?_
        | with_reducible refine mid_exit ?_
        | with_reducible refine mid_ret ?_
        | ((first | with_reducible refine kon_bin fun R hR => ?_ | with_reducible refine kon_conv fun R hR => ?_)
           dsimp only [go_sem, Nat.reduceAdd, Nat.reduceMul, Nat.reduceSub, Nat.reduceBEq, Nat.reduceLeDiff, Nat.reduceEqDiff, ↓dreduceIte, toG, tb33_75, tb33_85, tb33_86, tb33_87, tb33_88, tb33_89, tb33_90, tb33_91, conAtF, conDou, conNode, conRum, conSeed, conTime, conTurn, conView]
           try simp (disch := first | omega | (simp only [List.length_set, List.length_append, List.length_cons, List.length_nil, List.length_replicate]; omega)) only [guardP_T, guardP_pos, iteN, rd_set, List.set_set, List.length_set, eta_fact, eta_rumor, eta_doubt, eta_item, eta_rec, eta_due, look, look0, rd_toNat, wrap64, Int.toNat_natCast, Nat.zero_add, List.take_length, List.drop_zero, and_self, setB_len, true_and, and_true, inr_iff, inr_no, viewN_iff, viewN_no, rumN_iff, rumN_no, turnN_iff, turnN_no, douN_iff, douN_no, hpt, hpf]
           with_reducible refine hR _ ?_
           clear hR R)
        | (with_reducible refine kon_ins fun R hR => ?_
           dsimp only [go_sem, Nat.reduceAdd, Nat.reduceMul, Nat.reduceSub, Nat.reduceBEq, Nat.reduceLeDiff, Nat.reduceEqDiff, ↓dreduceIte, toG, tb33_75, tb33_85, tb33_86, tb33_87, tb33_88, tb33_89, tb33_90, tb33_91, conAtF, conDou, conNode, conRum, conSeed, conTime, conTurn, conView]
           first
             | with_reducible refine hR _ ?_
             | (simp (disch := first | omega | (simp only [List.length_set, List.length_append, List.length_cons, List.length_nil, List.length_replicate]; omega)) only [guardP_T, guardP_pos, iteN, rd_set, List.set_set, List.length_set, eta_fact, eta_rumor, eta_doubt, eta_item, eta_rec, eta_due, look, look0, rd_toNat, wrap64, Int.toNat_natCast, Nat.zero_add, List.take_length, List.drop_zero, and_self, setB_len, true_and, and_true, inr_iff, inr_no, viewN_iff, viewN_no, rumN_iff, rumN_no, turnN_iff, turnN_no, douN_iff, douN_no, hpt, hpf]
                try dsimp only [go_sem, Nat.reduceAdd, Nat.reduceMul, Nat.reduceSub, Nat.reduceBEq, Nat.reduceLeDiff, Nat.reduceEqDiff, ↓dreduceIte, toG, tb33_75, tb33_85, tb33_86, tb33_87, tb33_88, tb33_89, tb33_90, tb33_91, conAtF, conDou, conNode, conRum, conSeed, conTime, conTurn, conView]
                try simp (disch := first | omega | (simp only [List.length_set, List.length_append, List.length_cons, List.length_nil, List.length_replicate]; omega)) only [guardP_T, guardP_pos, iteN, rd_set, List.set_set, List.length_set, eta_fact, eta_rumor, eta_doubt, eta_item, eta_rec, eta_due, look, look0, rd_toNat, wrap64, Int.toNat_natCast, Nat.zero_add, List.take_length, List.drop_zero, and_self, setB_len, true_and, and_true, inr_iff, inr_no, viewN_iff, viewN_no, rumN_iff, rumN_no, turnN_iff, turnN_no, douN_iff, douN_no, hpt, hpf]
                with_reducible refine hR _ ?_)
           clear hR R)
        | (with_reducible refine kon_g_run ?_ ?_
           · dsimp only [nth] <;> with_reducible rfl)
        | (with_reducible refine kon_g_skip ?_ ?_
           · dsimp only [nth, not_t', not_f'] <;> with_reducible rfl
           dsimp only [go_sem])
        | (with_reducible refine kon_g_undef ?_ ?_
           · dsimp only [nth] <;> with_reducible rfl
           dsimp only [go_sem])
        | (with_reducible refine kon_g fun R hR => ?_
           dsimp only [go_sem, Nat.reduceAdd, Nat.reduceMul, Nat.reduceSub, Nat.reduceBEq, Nat.reduceLeDiff, Nat.reduceEqDiff, ↓dreduceIte, toG, tb33_75, tb33_85, tb33_86, tb33_87, tb33_88, tb33_89, tb33_90, tb33_91, conAtF, conDou, conNode, conRum, conSeed, conTime, conTurn, conView]
           split <;> (rename_i hb; with_reducible refine hR _ ?_; clear hR R; try simp only [hb]; try simp only [decide_eq_true_eq, decide_eq_false_iff_not, beq_iff_eq, beq_eq_false_iff_ne, bne_iff_ne, bne_eq_false_iff_eq, Bool.not_eq_true, Bool.not_eq_false, Bool.not_eq_eq_eq_not, Bool.not_true, Bool.not_false, ne_eq, Int.not_lt, Int.not_le, eq_self, not_true_eq_false, not_false_eq_true, decide_true, decide_false, Bool.and_eq_true, Bool.or_eq_true, Bool.and_eq_false_iff, Bool.or_eq_false_iff, gt_iff_lt, ge_iff_le, Bool.false_eq_true, Bool.true_eq_false, reduceCtorEq, or_false, false_or, or_true, true_or, false_and, and_false, inr_iff, inr_no, viewN_iff, viewN_no, rumN_iff, rumN_no, turnN_iff, turnN_no, douN_iff, douN_no, hpt, hpf] at hb; try (exfalso; omega)))
        | (with_reducible refine kon_cond fun R1 R2 h1 h2 => ?_
           dsimp only [go_sem]
           first
             | (with_reducible refine h1 ?_; clear h1 h2 R1 R2)
             | (with_reducible refine h2 ?_; clear h1 h2 R1 R2)
             | ((split <;> rename_i hb <;> first
                 | (with_reducible refine h1 ?_; clear h1 h2 R1 R2; try simp only [hb])
                 | (with_reducible refine h2 ?_; clear h1 h2 R1 R2; try simp only [hb])) <;> (try simp only [decide_eq_true_eq, decide_eq_false_iff_not, beq_iff_eq, beq_eq_false_iff_ne, bne_iff_ne, bne_eq_false_iff_eq, Bool.not_eq_true, Bool.not_eq_false, Bool.not_eq_eq_eq_not, Bool.not_true, Bool.not_false, ne_eq, Int.not_lt, Int.not_le, eq_self, not_true_eq_false, not_false_eq_true, decide_true, decide_false, Bool.and_eq_true, Bool.or_eq_true, Bool.and_eq_false_iff, Bool.or_eq_false_iff, gt_iff_lt, ge_iff_le, Bool.false_eq_true, Bool.true_eq_false, reduceCtorEq, or_false, false_or, or_true, true_or, false_and, and_false, inr_iff, inr_no, viewN_iff, viewN_no, rumN_iff, rumN_no, turnN_iff, turnN_no, douN_iff, douN_no, hpt, hpf] at hb; try (exfalso; omega))))
      all_goals first
        | (dsimp only [kon]
           with_reducible refine hQ _ _ _ ?_
           dsimp only [kon, endQ, af33, conNodeB, go_sem, Nat.reduceAdd, Nat.reduceMul, Nat.reduceSub, Nat.reduceBEq, Nat.reduceLeDiff, Nat.reduceEqDiff, ↓dreduceIte, toG, tb33_75, tb33_85, tb33_86, tb33_87, tb33_88, tb33_89, tb33_90, tb33_91, conAtF, conDou, conNode, conRum, conSeed, conTime, conTurn, conView]
           try simp (disch := first | omega | (simp only [List.length_set, List.length_append, List.length_cons, List.length_nil, List.length_replicate]; omega)) only [guardP_T, guardP_pos, iteN, rd_set, List.set_set, List.length_set, eta_fact, eta_rumor, eta_doubt, eta_item, eta_rec, eta_due, look, look0, rd_toNat, wrap64, Int.toNat_natCast, Nat.zero_add, List.take_length, List.drop_zero, and_self, setB_len, true_and, and_true]
           try dsimp only [go_sem, Nat.reduceAdd, Nat.reduceMul, Nat.reduceSub, Nat.reduceBEq, Nat.reduceLeDiff, Nat.reduceEqDiff, ↓dreduceIte, toG, tb33_75, tb33_85, tb33_86, tb33_87, tb33_88, tb33_89, tb33_90, tb33_91, conAtF, conDou, conNode, conRum, conSeed, conTime, conTurn, conView])
        | skip
      all_goals try first
        | omega
        | (simp; done)
        | (simp; omega)
      all_goals first
        | (simp; done)
        | rfl
        | (rw [decide_eq_false (by unfold nodeP; omega)]; done)
        | (rw [decide_eq_true (by unfold nodeP; omega)]; done)
        | (cases hx : inr pd 0 1000000 with
           | false =>
             rw [inr_no] at hx
             rw [decide_eq_false (by unfold nodeP; omega)]
           | true =>
             rw [inr_iff] at hx
             rw [decide_eq_true (by unfold nodeP; omega)])
        | (have hd := dou_no ds a i hI0 (by omega) (by rw [douP_iff]; omega)
           rw [decide_eq_false (by unfold nodeP; omega)]
           done)
        | (have hd := dou_long ds a (by omega)
           rw [decide_eq_false (by unfold nodeP; omega)]
           done)
        | (have hd := dou_yes ds a i (by omega) (by omega) hI2 (by omega)
           rw [decide_eq_true (by unfold nodeP; omega)]
           done)
        | (rw [allTo_step hI0, hI2, Bool.true_and, douP_iff]
           omega)
        | (by_cases hl6 : ds.length ≤ 6
           · have hd := dou_yes ds a i hl6 (by omega) hI2 (by omega)
             rw [decide_eq_true (by omega), decide_eq_true (by unfold nodeP; omega)]
           · have hd := dou_long ds a (by omega)
             rw [decide_eq_false (by omega), decide_eq_false (by unfold nodeP; omega)])
    · simp at h'

end Go.Proofs.Ytnghlmogcbmlfaa
