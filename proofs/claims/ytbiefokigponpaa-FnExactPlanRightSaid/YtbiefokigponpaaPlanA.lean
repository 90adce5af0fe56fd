/- Plans: what a right one is. -/
import Derived.Test.YtbiefokigponpaaItemsA
namespace Go.Proofs.Ytbiefokigponpaa
set_option linter.unusedVariables false
set_option linter.unusedSimpArgs false
set_option linter.unnecessarySimpa false

/-- How deep it is behind an item. -/
def dnext (d : Int) (x : Item) : Int := if x.kind = 8 then d + 1 else if x.kind = 9 then d - 1 else d

def planGo : Int → List Item → Bool
  | d, [] => decide (d = 0)
  | d, x :: r => itemOk x && (decide (0 ≤ dnext d x) && decide (dnext d x ≤ 3)) && planGo (dnext d x) r

/-- A right plan. -/
def planOk (l : List Item) : Bool := decide (l.length ≤ 40) && planGo 0 l

theorem planGo_step {d : Int} {l : List Item} {i : Int} (h0 : 0 ≤ i) (h1 : i < l.length) : planGo d (l.drop i.toNat) = (itemOk (rd l i) && (decide (0 ≤ dnext d (rd l i)) && decide (dnext d (rd l i) ≤ 3)) && planGo (dnext d (rd l i)) (l.drop (i + 1).toNat)) := by
  rw [drop_rd h0 h1, planGo]

def afterI (d : Int) (x : Item) : Int := if x.kind = 8 then (if d = 3 then -1 else d + 1) else if x.kind = 9 then d - 1 else d

def conAfter : Con := ⟨[.v, .v], .v, fun as => match as with
  | [.int .i64 d, .agg [.int .i64 a, .int .i64 b, .int .i64 c, .int .i64 e]] => guardP (0 ≤ d ∧ d ≤ 3) (some (.int .i64 (afterI d ⟨a, b, c, e⟩), []))
  | _ => none⟩

def conPlanOk : Con := ⟨[.imm .item], .v, fun as => match as with
  | [.sl .item l] => some (.bool (planOk l), [])
  | _ => none⟩

theorem after_neg {d : Int} {x : Item} (h0 : 0 ≤ d) (h1 : d ≤ 3) : afterI d x < 0 ↔ ¬ (0 ≤ dnext d x ∧ dnext d x ≤ 3) := by
  unfold afterI dnext
  split <;> split <;> omega

theorem after_eq {d : Int} {x : Item} (h0 : 0 ≤ d) (h1 : d ≤ 3) (h : 0 ≤ afterI d x) : afterI d x = dnext d x ∧ 0 ≤ dnext d x ∧ dnext d x ≤ 3 := by
  unfold afterI dnext at *
  split at h <;> split at h <;> simp_all <;> omega

-- loop.example/g00678/impl.after hows []
def af38 : AF := ⟨26, [.t 4],
  .seq (.reg [⟨some 3, .box (.t 1), none⟩,
    ⟨some 4, .mv (.i 0), none⟩])
  (.seq (.block 0 (.seq (.reg [⟨some 6, .fa 0 (.t 3), none⟩,
      ⟨some 7, .ld false 1 (.t 6), none⟩,
      ⟨some 8, .bin .eql (.t 7) (.i 8), none⟩,
      ⟨some 9, .mv (.t 8), none⟩,
      ⟨some 10, .mv (.t 0), some (9, true)⟩,
      ⟨some 11, .bin .eql (.t 10) (.i 3), some (9, true)⟩,
      ⟨some 12, .pick (.t 9) (.t 11) (.b false), none⟩,
      ⟨some 5, .mv (.t 12), none⟩])
    (.cond (.t 5)
      (.seq (.reg [⟨some 4, .mv (.i (-1)), none⟩])
      (.ret))
      (.seq (.reg [⟨some 14, .fa 0 (.t 3), none⟩,
        ⟨some 15, .ld false 1 (.t 14), none⟩,
        ⟨some 16, .bin .eql (.t 15) (.i 8), none⟩,
        ⟨some 13, .mv (.t 16), none⟩])
      (.cond (.t 13)
        (.seq (.reg [⟨some 17, .mv (.t 0), none⟩,
          ⟨some 18, .bin .add (.t 17) (.i 1), none⟩,
          ⟨some 4, .mv (.t 18), none⟩])
        (.ret))
        (.seq (.reg [⟨some 20, .fa 0 (.t 3), none⟩,
          ⟨some 21, .ld false 1 (.t 20), none⟩,
          ⟨some 22, .bin .eql (.t 21) (.i 9), none⟩,
          ⟨some 19, .mv (.t 22), none⟩])
        (.cond (.t 19)
          (.seq (.reg [⟨some 23, .mv (.t 0), none⟩,
            ⟨some 24, .bin .sub (.t 23) (.i 1), none⟩,
            ⟨some 4, .mv (.t 24), none⟩])
          (.ret))
          (.skip))))))))
  (.seq (.reg [⟨some 25, .mv (.t 0), none⟩,
    ⟨some 4, .mv (.t 25), none⟩])
  (.ret)))⟩

set_option maxHeartbeats 4000000 in
theorem does38 (as : List AV) (hok : ok 64 as) : Does tbNone af38 conAfter as := by
  cases h : (conAfter).run as with
  | none => exact does_none h
  | some out =>
    have h' := h
    simp only [conAfter] at h'
    split at h'
    · rename_i d a b c e
      by_cases hp : 0 ≤ d ∧ d ≤ 3
      case neg => simp [guardP, hp] at h'
      rw [guardP_pos hp] at h'
      obtain ⟨hp1, hp2⟩ := hp
      simp only [Option.some.injEq] at h'
      subst h'
      have hmo : (most : Int) = 1099511627776 := rfl
      have hml : (maxLen : Int) = 9223372036854775807 := rfl
      with_reducible refine does_by h fun Q hQ => ?_
      clear h
      dsimp only [af38, conAfter, go_sem, Nat.reduceAdd, Nat.reduceMul, Nat.reduceSub, Nat.reduceBEq, Nat.reduceLeDiff, Nat.reduceEqDiff, ↓dreduceIte, toG]
      repeat' first
        | with_reducible refine kon_seq ?_
        | with_reducible refine kon_nil ?_
        | with_reducible refine kon_skip ?_
        | with_reducible refine kon_block ?_
        | with_reducible refine kon_ret ?_
        | with_reducible refine kon_exit ?_
        | with_reducible refine kon_past_ret ?_
        | with_reducible refine kon_past_exit ?_
        | with_reducible refine kon_blk_ret ?_
        | with_reducible refine kon_blk_end ?_
        | with_reducible refine kon_blk_exit ?_
        | with_reducible refine loop_exit ?_
        | with_reducible refine loop_ret ?_
        | with_reducible refine mid_exit ?_
        | with_reducible refine mid_ret ?_
        | (with_reducible refine kon_bin fun R hR => ?_
           dsimp only [go_sem, Nat.reduceAdd, Nat.reduceMul, Nat.reduceSub, Nat.reduceBEq, Nat.reduceLeDiff, Nat.reduceEqDiff, ↓dreduceIte, toG]
           try simp (disch := omega) only [guardP_T, guardP_pos, iteN, rd_set, List.set_set, List.length_set, eta_fact, eta_rumor, eta_doubt, eta_item, eta_rec, eta_due, look, look0, rd_toNat, wrap64, Int.toNat_natCast, Nat.zero_add, List.take_length, List.drop_zero, and_self, setB_len, true_and, and_true]
           with_reducible refine hR _ ?_
           clear hR R)
        | (with_reducible refine kon_conv fun R hR => ?_
           dsimp only [go_sem, Nat.reduceAdd, Nat.reduceMul, Nat.reduceSub, Nat.reduceBEq, Nat.reduceLeDiff, Nat.reduceEqDiff, ↓dreduceIte, toG]
           try simp (disch := omega) only [guardP_T, guardP_pos, iteN, rd_set, List.set_set, List.length_set, eta_fact, eta_rumor, eta_doubt, eta_item, eta_rec, eta_due, look, look0, rd_toNat, wrap64, Int.toNat_natCast, Nat.zero_add, List.take_length, List.drop_zero, and_self, setB_len, true_and, and_true]
           with_reducible refine hR _ ?_
           clear hR R)
        | (with_reducible refine kon_ins fun R hR => ?_
           dsimp only [go_sem, Nat.reduceAdd, Nat.reduceMul, Nat.reduceSub, Nat.reduceBEq, Nat.reduceLeDiff, Nat.reduceEqDiff, ↓dreduceIte, toG]
           first
             | with_reducible refine hR _ ?_
             | (simp (disch := omega) only [guardP_T, guardP_pos, iteN, rd_set, List.set_set, List.length_set, eta_fact, eta_rumor, eta_doubt, eta_item, eta_rec, eta_due, look, look0, rd_toNat, wrap64, Int.toNat_natCast, Nat.zero_add, List.take_length, List.drop_zero, and_self, setB_len, true_and, and_true]
                try dsimp only [go_sem, Nat.reduceAdd, Nat.reduceMul, Nat.reduceSub, Nat.reduceBEq, Nat.reduceLeDiff, Nat.reduceEqDiff, ↓dreduceIte, toG]
                try simp (disch := omega) only [guardP_T, guardP_pos, iteN, rd_set, List.set_set, List.length_set, eta_fact, eta_rumor, eta_doubt, eta_item, eta_rec, eta_due, look, look0, rd_toNat, wrap64, Int.toNat_natCast, Nat.zero_add, List.take_length, List.drop_zero, and_self, setB_len, true_and, and_true]
                with_reducible refine hR _ ?_)
           clear hR R)
        | (with_reducible refine kon_g_run ?_ ?_
           · dsimp only [nth] <;> with_reducible rfl)
        | (with_reducible refine kon_g_skip ?_ ?_
           · dsimp only [nth, not_t', not_f'] <;> with_reducible rfl
           dsimp only [go_sem])
        | (with_reducible refine kon_g_undef ?_ ?_
           · dsimp only [nth] <;> with_reducible rfl
           dsimp only [go_sem])
        | (with_reducible refine kon_g fun R hR => ?_
           dsimp only [go_sem, Nat.reduceAdd, Nat.reduceMul, Nat.reduceSub, Nat.reduceBEq, Nat.reduceLeDiff, Nat.reduceEqDiff, ↓dreduceIte, toG]
           split <;> (rename_i hb; with_reducible refine hR _ ?_; clear hR R; try simp only [hb]; try simp only [decide_eq_true_eq, decide_eq_false_iff_not, beq_iff_eq, beq_eq_false_iff_ne, bne_iff_ne, bne_eq_false_iff_eq, Bool.not_eq_true, Bool.not_eq_false, Bool.not_eq_eq_eq_not, Bool.not_true, Bool.not_false, ne_eq, Int.not_lt, Int.not_le, eq_self, not_true_eq_false, not_false_eq_true, decide_true, decide_false, Bool.and_eq_true, Bool.or_eq_true, Bool.and_eq_false_iff, Bool.or_eq_false_iff, gt_iff_lt, ge_iff_le, Bool.false_eq_true, Bool.true_eq_false, reduceCtorEq, or_false, false_or, or_true, true_or, false_and, and_false] at hb; try (exfalso; omega)))
        | (with_reducible refine kon_cond fun R1 R2 h1 h2 => ?_
           dsimp only [go_sem]
           first
             | (with_reducible refine h1 ?_; clear h1 h2 R1 R2)
             | (with_reducible refine h2 ?_; clear h1 h2 R1 R2)
             | (split <;> rename_i hb <;> first
                 | (with_reducible refine h1 ?_; clear h1 h2 R1 R2; try simp only [hb]; try simp only [decide_eq_true_eq, decide_eq_false_iff_not, beq_iff_eq, beq_eq_false_iff_ne, bne_iff_ne, bne_eq_false_iff_eq, Bool.not_eq_true, Bool.not_eq_false, Bool.not_eq_eq_eq_not, Bool.not_true, Bool.not_false, ne_eq, Int.not_lt, Int.not_le, eq_self, not_true_eq_false, not_false_eq_true, decide_true, decide_false, Bool.and_eq_true, Bool.or_eq_true, Bool.and_eq_false_iff, Bool.or_eq_false_iff, gt_iff_lt, ge_iff_le, Bool.false_eq_true, Bool.true_eq_false, reduceCtorEq, or_false, false_or, or_true, true_or, false_and, and_false] at hb; try (exfalso; omega))
                 | (with_reducible refine h2 ?_; clear h1 h2 R1 R2; try simp only [hb]; try simp only [decide_eq_true_eq, decide_eq_false_iff_not, beq_iff_eq, beq_eq_false_iff_ne, bne_iff_ne, bne_eq_false_iff_eq, Bool.not_eq_true, Bool.not_eq_false, Bool.not_eq_eq_eq_not, Bool.not_true, Bool.not_false, ne_eq, Int.not_lt, Int.not_le, eq_self, not_true_eq_false, not_false_eq_true, decide_true, decide_false, Bool.and_eq_true, Bool.or_eq_true, Bool.and_eq_false_iff, Bool.or_eq_false_iff, gt_iff_lt, ge_iff_le, Bool.false_eq_true, Bool.true_eq_false, reduceCtorEq, or_false, false_or, or_true, true_or, false_and, and_false] at hb; try (exfalso; omega))))
      all_goals first
        | (dsimp only [kon]
           with_reducible refine hQ _ _ _ ?_
           dsimp only [kon, endQ, af38, conAfter, go_sem, Nat.reduceAdd, Nat.reduceMul, Nat.reduceSub, Nat.reduceBEq, Nat.reduceLeDiff, Nat.reduceEqDiff, ↓dreduceIte, toG]
           try simp (disch := omega) only [guardP_T, guardP_pos, iteN, rd_set, List.set_set, List.length_set, eta_fact, eta_rumor, eta_doubt, eta_item, eta_rec, eta_due, look, look0, rd_toNat, wrap64, Int.toNat_natCast, Nat.zero_add, List.take_length, List.drop_zero, and_self, setB_len, true_and, and_true]
           try dsimp only [go_sem, Nat.reduceAdd, Nat.reduceMul, Nat.reduceSub, Nat.reduceBEq, Nat.reduceLeDiff, Nat.reduceEqDiff, ↓dreduceIte, toG])
        | skip
      all_goals try first
        | omega
        | (simp; done)
        | (simp; omega)
      all_goals (simp only [afterI, Option.some.injEq, Prod.mk.injEq, AV.int.injEq, and_true]; simp_all)
    · simp at h'

def tb23 : Tab := fun f => match f with
  | 8 => some conItemOk
  | _ => none

theorem tb23_8 : tb23 8 = some conItemOk := rfl

-- loop.example/g00678/spec.PlanRight hows []
def af23 : AF := ⟨41, [.t 2],
  .seq (.reg [⟨some 2, .mv (.b false), none⟩])
  (.seq (.seq (.reg [⟨some 5, .mv (.t 0), none⟩,
    ⟨some 6, .len (.t 5), none⟩,
    ⟨some 7, .bin .gtr (.t 6) (.i 40), none⟩])
  (.cond (.t 7)
    (.seq (.reg [⟨some 2, .mv (.b false), none⟩])
    (.ret))
    (.skip)))
  (.seq (.reg [⟨some 3, .mv (.i 0), none⟩])
  (.seq (.seq (.reg [⟨some 4, .mv (.i 0), none⟩])
  (.block 0 (.loop (.seq (.seq (.reg [⟨some 8, .mv (.t 4), none⟩,
        ⟨some 9, .mv (.t 0), none⟩,
        ⟨some 10, .len (.t 9), none⟩,
        ⟨some 11, .bin .lss (.t 8) (.t 10), none⟩])
      (.cond (.t 11)
        (.skip)
        (.exit 0)))
      (.seq (.block 1 (.seq (.seq (.reg [⟨some 14, .mv (.t 0), none⟩,
          ⟨some 15, .mv (.t 4), none⟩,
          ⟨some 16, .ia .item (.t 14) (.t 15), none⟩,
          ⟨some 17, .ld true 4 (.t 16), none⟩,
          ⟨some 18, .call 8 [(.t 17)], none⟩,
          ⟨some 19, .un .not (.t 18), none⟩])
        (.cond (.t 19)
          (.seq (.reg [⟨some 2, .mv (.b false), none⟩])
          (.ret))
          (.skip)))
        (.seq (.seq (.reg [⟨some 20, .mv (.t 0), none⟩,
          ⟨some 21, .mv (.t 4), none⟩,
          ⟨some 22, .ia .item (.t 20) (.t 21), none⟩,
          ⟨some 23, .fa 0 (.t 22), none⟩,
          ⟨some 24, .ld false 1 (.t 23), none⟩])
        (.block 2 (.seq (.reg [⟨some 26, .bin .eql (.t 24) (.i 8), none⟩,
            ⟨some 25, .mv (.t 26), none⟩])
          (.cond (.t 25)
            (.reg [⟨some 27, .mv (.t 3), none⟩,
              ⟨some 28, .bin .add (.t 27) (.i 1), none⟩,
              ⟨some 3, .mv (.t 28), none⟩])
            (.seq (.reg [⟨some 30, .bin .eql (.t 24) (.i 9), none⟩,
              ⟨some 29, .mv (.t 30), none⟩])
            (.cond (.t 29)
              (.reg [⟨some 31, .mv (.t 3), none⟩,
                ⟨some 32, .bin .sub (.t 31) (.i 1), none⟩,
                ⟨some 3, .mv (.t 32), none⟩])
              (.skip)))))))
        (.seq (.reg [⟨some 33, .mv (.t 3), none⟩,
          ⟨some 34, .bin .lss (.t 33) (.i 0), none⟩,
          ⟨some 35, .mv (.t 34), none⟩,
          ⟨some 36, .mv (.t 3), some (35, false)⟩,
          ⟨some 37, .bin .gtr (.t 36) (.i 3), some (35, false)⟩,
          ⟨some 38, .pick (.t 35) (.b true) (.t 37), none⟩])
        (.cond (.t 38)
          (.seq (.reg [⟨some 2, .mv (.b false), none⟩])
          (.ret))
          (.skip))))))
      (.reg [⟨some 12, .mv (.t 4), none⟩,
        ⟨some 13, .bin .add (.t 12) (.i 1), none⟩,
        ⟨some 4, .mv (.t 13), none⟩]))))))
  (.seq (.reg [⟨some 39, .mv (.t 3), none⟩,
    ⟨some 40, .bin .eql (.t 39) (.i 0), none⟩,
    ⟨some 2, .mv (.t 40), none⟩])
  (.ret)))))⟩

set_option maxHeartbeats 4000000 in
theorem does23 (as : List AV) (hok : ok 64 as) : Does tb23 af23 conPlanOk as := by
  cases h : (conPlanOk).run as with
  | none => exact does_none h
  | some out =>
    have h' := h
    simp only [conPlanOk] at h'
    split at h'
    · rename_i l
      simp only [ok] at hok
      obtain ⟨⟨ha, _⟩, _⟩ := hok
      simp only [Option.some.injEq] at h'
      subst h'
      have hmo : (most : Int) = 1099511627776 := rfl
      have hml : (maxLen : Int) = 9223372036854775807 := rfl
      with_reducible refine does_by h fun Q hQ => ?_
      clear h
      dsimp only [af23, conPlanOk, go_sem, Nat.reduceAdd, Nat.reduceMul, Nat.reduceSub, Nat.reduceBEq, Nat.reduceLeDiff, Nat.reduceEqDiff, ↓dreduceIte, toG, tb23_8, conItemOk]
      repeat' first
        | with_reducible refine kon_seq ?_
        | with_reducible refine kon_nil ?_
        | with_reducible refine kon_skip ?_
        | with_reducible refine kon_block ?_
        | with_reducible refine kon_ret ?_
        | with_reducible refine kon_exit ?_
        | with_reducible refine kon_past_ret ?_
        | with_reducible refine kon_past_exit ?_
        | with_reducible refine kon_blk_ret ?_
        | with_reducible refine kon_blk_end ?_
        | with_reducible refine kon_blk_exit ?_
        | with_reducible refine loop_exit ?_
        | with_reducible refine loop_ret ?_
        | with_reducible refine mid_exit ?_
        | with_reducible refine mid_ret ?_
        | (with_reducible refine kon_bin fun R hR => ?_
           dsimp only [go_sem, Nat.reduceAdd, Nat.reduceMul, Nat.reduceSub, Nat.reduceBEq, Nat.reduceLeDiff, Nat.reduceEqDiff, ↓dreduceIte, toG, tb23_8, conItemOk]
           try simp (disch := omega) only [guardP_T, guardP_pos, iteN, rd_set, List.set_set, List.length_set, eta_fact, eta_rumor, eta_doubt, eta_item, eta_rec, eta_due, look, look0, rd_toNat, wrap64, Int.toNat_natCast, Nat.zero_add, List.take_length, List.drop_zero, and_self, setB_len, true_and, and_true]
           with_reducible refine hR _ ?_
           clear hR R)
        | (with_reducible refine kon_conv fun R hR => ?_
           dsimp only [go_sem, Nat.reduceAdd, Nat.reduceMul, Nat.reduceSub, Nat.reduceBEq, Nat.reduceLeDiff, Nat.reduceEqDiff, ↓dreduceIte, toG, tb23_8, conItemOk]
           try simp (disch := omega) only [guardP_T, guardP_pos, iteN, rd_set, List.set_set, List.length_set, eta_fact, eta_rumor, eta_doubt, eta_item, eta_rec, eta_due, look, look0, rd_toNat, wrap64, Int.toNat_natCast, Nat.zero_add, List.take_length, List.drop_zero, and_self, setB_len, true_and, and_true]
           with_reducible refine hR _ ?_
           clear hR R)
        | (with_reducible refine kon_ins fun R hR => ?_
           dsimp only [go_sem, Nat.reduceAdd, Nat.reduceMul, Nat.reduceSub, Nat.reduceBEq, Nat.reduceLeDiff, Nat.reduceEqDiff, ↓dreduceIte, toG, tb23_8, conItemOk]
           first
             | with_reducible refine hR _ ?_
             | (simp (disch := omega) only [guardP_T, guardP_pos, iteN, rd_set, List.set_set, List.length_set, eta_fact, eta_rumor, eta_doubt, eta_item, eta_rec, eta_due, look, look0, rd_toNat, wrap64, Int.toNat_natCast, Nat.zero_add, List.take_length, List.drop_zero, and_self, setB_len, true_and, and_true]
                try dsimp only [go_sem, Nat.reduceAdd, Nat.reduceMul, Nat.reduceSub, Nat.reduceBEq, Nat.reduceLeDiff, Nat.reduceEqDiff, ↓dreduceIte, toG, tb23_8, conItemOk]
                try simp (disch := omega) only [guardP_T, guardP_pos, iteN, rd_set, List.set_set, List.length_set, eta_fact, eta_rumor, eta_doubt, eta_item, eta_rec, eta_due, look, look0, rd_toNat, wrap64, Int.toNat_natCast, Nat.zero_add, List.take_length, List.drop_zero, and_self, setB_len, true_and, and_true]
                with_reducible refine hR _ ?_)
           clear hR R)
        | (with_reducible refine kon_g_run ?_ ?_
           · dsimp only [nth] <;> with_reducible rfl)
        | (with_reducible refine kon_g_skip ?_ ?_
           · dsimp only [nth, not_t', not_f'] <;> with_reducible rfl
           dsimp only [go_sem])
        | (with_reducible refine kon_g_undef ?_ ?_
           · dsimp only [nth] <;> with_reducible rfl
           dsimp only [go_sem])
        | (with_reducible refine kon_g fun R hR => ?_
           dsimp only [go_sem, Nat.reduceAdd, Nat.reduceMul, Nat.reduceSub, Nat.reduceBEq, Nat.reduceLeDiff, Nat.reduceEqDiff, ↓dreduceIte, toG, tb23_8, conItemOk]
           split <;> (rename_i hb; with_reducible refine hR _ ?_; clear hR R; try simp only [hb]; try simp only [decide_eq_true_eq, decide_eq_false_iff_not, beq_iff_eq, beq_eq_false_iff_ne, bne_iff_ne, bne_eq_false_iff_eq, Bool.not_eq_true, Bool.not_eq_false, Bool.not_eq_eq_eq_not, Bool.not_true, Bool.not_false, ne_eq, Int.not_lt, Int.not_le, eq_self, not_true_eq_false, not_false_eq_true, decide_true, decide_false, Bool.and_eq_true, Bool.or_eq_true, Bool.and_eq_false_iff, Bool.or_eq_false_iff, gt_iff_lt, ge_iff_le, Bool.false_eq_true, Bool.true_eq_false, reduceCtorEq, or_false, false_or, or_true, true_or, false_and, and_false] at hb; try (exfalso; omega)))
        | (with_reducible refine kon_cond fun R1 R2 h1 h2 => ?_
           dsimp only [go_sem]
           first
             | (with_reducible refine h1 ?_; clear h1 h2 R1 R2)
             | (with_reducible refine h2 ?_; clear h1 h2 R1 R2)
             | (split <;> rename_i hb <;> first
                 | (with_reducible refine h1 ?_; clear h1 h2 R1 R2; try simp only [hb]; try simp only [decide_eq_true_eq, decide_eq_false_iff_not, beq_iff_eq, beq_eq_false_iff_ne, bne_iff_ne, bne_eq_false_iff_eq, Bool.not_eq_true, Bool.not_eq_false, Bool.not_eq_eq_eq_not, Bool.not_true, Bool.not_false, ne_eq, Int.not_lt, Int.not_le, eq_self, not_true_eq_false, not_false_eq_true, decide_true, decide_false, Bool.and_eq_true, Bool.or_eq_true, Bool.and_eq_false_iff, Bool.or_eq_false_iff, gt_iff_lt, ge_iff_le, Bool.false_eq_true, Bool.true_eq_false, reduceCtorEq, or_false, false_or, or_true, true_or, false_and, and_false] at hb; try (exfalso; omega))
                 | (with_reducible refine h2 ?_; clear h1 h2 R1 R2; try simp only [hb]; try simp only [decide_eq_true_eq, decide_eq_false_iff_not, beq_iff_eq, beq_eq_false_iff_ne, bne_iff_ne, bne_eq_false_iff_eq, Bool.not_eq_true, Bool.not_eq_false, Bool.not_eq_eq_eq_not, Bool.not_true, Bool.not_false, ne_eq, Int.not_lt, Int.not_le, eq_self, not_true_eq_false, not_false_eq_true, decide_true, decide_false, Bool.and_eq_true, Bool.or_eq_true, Bool.and_eq_false_iff, Bool.or_eq_false_iff, gt_iff_lt, ge_iff_le, Bool.false_eq_true, Bool.true_eq_false, reduceCtorEq, or_false, false_or, or_true, true_or, false_and, and_false] at hb; try (exfalso; omega))))
        | (with_reducible refine kon_rounds [0, 3, 4] (fun n s => ∃ (i : Int) (d : Int), ((0 ≤ i) ∧ (i ≤ l.length) ∧ (0 ≤ d) ∧ (d ≤ 3) ∧ (planGo 0 l = planGo d (l.drop i.toNat))) ∧ n = (l.length - i).toNat ∧ s.m = [] ∧ s.t = [.sl .item l, nth s.t 1, nth s.t 2, .int .i64 d, .int .i64 i, nth s.t 5, nth s.t 6, nth s.t 7, nth s.t 8, nth s.t 9, nth s.t 10, nth s.t 11, nth s.t 12, nth s.t 13, nth s.t 14, nth s.t 15, nth s.t 16, nth s.t 17, nth s.t 18, nth s.t 19, nth s.t 20, nth s.t 21, nth s.t 22, nth s.t 23, nth s.t 24, nth s.t 25, nth s.t 26, nth s.t 27, nth s.t 28, nth s.t 29, nth s.t 30, nth s.t 31, nth s.t 32, nth s.t 33, nth s.t 34, nth s.t 35, nth s.t 36, nth s.t 37, nth s.t 38, nth s.t 39, nth s.t 40]) ?_ ?_
           all_goals first
             | (rintro n ⟨t, m⟩ ⟨i, d, ⟨hI0, hI1, hI2, hI3, hI4⟩, rfl, hm, ht⟩
                dsimp only at hm ht
                subst hm
                rw [ht]
                clear ht)
             | (dsimp only [go_sem, Nat.reduceAdd, Nat.reduceMul, Nat.reduceSub, Nat.reduceBEq, Nat.reduceLeDiff, Nat.reduceEqDiff, ↓dreduceIte, toG, tb23_8, conItemOk]
                refine ⟨_, _, _, ⟨?_, ?_, ?_, ?_, ?_⟩, rfl, rfl, rfl⟩))
        | (with_reducible refine loop_again (keep := [0, 3, 4]) ?_
           dsimp only [go_sem, Nat.reduceAdd, Nat.reduceMul, Nat.reduceSub, Nat.reduceBEq, Nat.reduceLeDiff, Nat.reduceEqDiff, ↓dreduceIte, toG, tb23_8, conItemOk]
           refine ⟨_, ?_, _, _, ⟨?_, ?_, ?_, ?_, ?_⟩, rfl, rfl, rfl⟩)
      all_goals first
        | (dsimp only [kon]
           with_reducible refine hQ _ _ _ ?_
           dsimp only [kon, endQ, af23, conPlanOk, go_sem, Nat.reduceAdd, Nat.reduceMul, Nat.reduceSub, Nat.reduceBEq, Nat.reduceLeDiff, Nat.reduceEqDiff, ↓dreduceIte, toG, tb23_8, conItemOk]
           try simp (disch := omega) only [guardP_T, guardP_pos, iteN, rd_set, List.set_set, List.length_set, eta_fact, eta_rumor, eta_doubt, eta_item, eta_rec, eta_due, look, look0, rd_toNat, wrap64, Int.toNat_natCast, Nat.zero_add, List.take_length, List.drop_zero, and_self, setB_len, true_and, and_true]
           try dsimp only [go_sem, Nat.reduceAdd, Nat.reduceMul, Nat.reduceSub, Nat.reduceBEq, Nat.reduceLeDiff, Nat.reduceEqDiff, ↓dreduceIte, toG, tb23_8, conItemOk])
        | skip
      all_goals try first
        | omega
        | (simp; done)
        | (simp; omega)
      all_goals first
        | (rw [hI4, planGo_step (by omega) (by omega)]
           (simp_all [dnext] <;> omega))
        | (simp only [planOk, hI4]
           rw [planGo_step (by omega) (by omega)]
           (simp_all [dnext] <;> omega))
        | (simp only [planOk, hI4]
           rw [drop_all (by omega), show decide (l.length ≤ 40) = true from decide_eq_true (by omega)]
           rfl)
        | (simp [planOk]; omega)
    · simp at h'

def tb25 : Tab := fun f => match f with
  | 10 => some conItemOk
  | 38 => some conAfter
  | _ => none

theorem tb25_10 : tb25 10 = some conItemOk := rfl
theorem tb25_38 : tb25 38 = some conAfter := rfl

-- loop.example/g00678/impl.PlanRight hows []
def af25 : AF := ⟨30, [.t 2],
  .seq (.reg [⟨some 2, .mv (.b false), none⟩])
  (.seq (.reg [⟨some 3, .mv (.i 0), none⟩])
  (.seq (.seq (.reg [⟨some 6, .mv (.t 0), none⟩,
    ⟨some 7, .len (.t 6), none⟩,
    ⟨some 8, .mv (.i 0), none⟩])
  (.block 0 (.loop (.seq (.reg [⟨some 9, .bin .lss (.t 8) (.t 7), none⟩])
      (.seq (.cond (.t 9)
        (.skip)
        (.exit 0))
      (.seq (.block 1 (.seq (.reg [⟨some 10, .ia .item (.t 6) (.t 8), none⟩,
          ⟨some 11, .ld true 4 (.t 10), none⟩,
          ⟨some 5, .box (.c (.agg [.int .i64 0, .int .i64 0, .int .i64 0, .int .i64 0])), none⟩,
          ⟨none, .st 4 (.t 5) (.t 11), none⟩])
        (.seq (.reg [⟨some 12, .mv (.t 3), none⟩,
          ⟨some 13, .ld true 4 (.t 5), none⟩,
          ⟨some 14, .call 38 [(.t 12), (.t 13)], none⟩,
          ⟨some 3, .mv (.t 14), none⟩])
        (.seq (.reg [⟨some 15, .ld true 4 (.t 5), none⟩,
          ⟨some 16, .call 10 [(.t 15)], none⟩,
          ⟨some 17, .un .not (.t 16), none⟩,
          ⟨some 18, .mv (.t 17), none⟩,
          ⟨some 19, .mv (.t 3), some (18, false)⟩,
          ⟨some 20, .bin .lss (.t 19) (.i 0), some (18, false)⟩,
          ⟨some 21, .pick (.t 18) (.b true) (.t 20), none⟩])
        (.cond (.t 21)
          (.seq (.reg [⟨some 2, .mv (.b false), none⟩])
          (.ret))
          (.skip))))))
      (.reg [⟨some 22, .bin .add (.t 8) (.i 1), none⟩,
        ⟨some 8, .mv (.t 22), none⟩])))))))
  (.seq (.reg [⟨some 23, .mv (.t 0), none⟩,
    ⟨some 24, .len (.t 23), none⟩,
    ⟨some 25, .bin .leq (.t 24) (.i 40), none⟩,
    ⟨some 26, .mv (.t 25), none⟩,
    ⟨some 27, .mv (.t 3), some (26, true)⟩,
    ⟨some 28, .bin .eql (.t 27) (.i 0), some (26, true)⟩,
    ⟨some 29, .pick (.t 26) (.t 28) (.b false), none⟩,
    ⟨some 2, .mv (.t 29), none⟩])
  (.ret))))⟩

set_option maxHeartbeats 4000000 in
theorem does25 (as : List AV) (hok : ok 64 as) : Does tb25 af25 conPlanOk as := by
  cases h : (conPlanOk).run as with
  | none => exact does_none h
  | some out =>
    have h' := h
    simp only [conPlanOk] at h'
    split at h'
    · rename_i l
      simp only [ok] at hok
      obtain ⟨⟨ha, _⟩, _⟩ := hok
      simp only [Option.some.injEq] at h'
      subst h'
      have hmo : (most : Int) = 1099511627776 := rfl
      have hml : (maxLen : Int) = 9223372036854775807 := rfl
      with_reducible refine does_by h fun Q hQ => ?_
      clear h
      dsimp only [af25, conPlanOk, go_sem, Nat.reduceAdd, Nat.reduceMul, Nat.reduceSub, Nat.reduceBEq, Nat.reduceLeDiff, Nat.reduceEqDiff, ↓dreduceIte, toG, tb25_10, tb25_38, conAfter, conItemOk]
      repeat' first
        | with_reducible refine kon_seq ?_
        | with_reducible refine kon_nil ?_
        | with_reducible refine kon_skip ?_
        | with_reducible refine kon_block ?_
        | with_reducible refine kon_ret ?_
        | with_reducible refine kon_exit ?_
        | with_reducible refine kon_past_ret ?_
        | with_reducible refine kon_past_exit ?_
        | with_reducible refine kon_blk_ret ?_
        | with_reducible refine kon_blk_end ?_
        | with_reducible refine kon_blk_exit ?_
        | with_reducible refine loop_exit ?_
        | with_reducible refine loop_ret ?_
        | with_reducible refine mid_exit ?_
        | with_reducible refine mid_ret ?_
        | (with_reducible refine kon_bin fun R hR => ?_
           dsimp only [go_sem, Nat.reduceAdd, Nat.reduceMul, Nat.reduceSub, Nat.reduceBEq, Nat.reduceLeDiff, Nat.reduceEqDiff, ↓dreduceIte, toG, tb25_10, tb25_38, conAfter, conItemOk]
           try simp (disch := omega) only [guardP_T, guardP_pos, iteN, rd_set, List.set_set, List.length_set, eta_fact, eta_rumor, eta_doubt, eta_item, eta_rec, eta_due, look, look0, rd_toNat, wrap64, Int.toNat_natCast, Nat.zero_add, List.take_length, List.drop_zero, and_self, setB_len, true_and, and_true]
           with_reducible refine hR _ ?_
           clear hR R)
        | (with_reducible refine kon_conv fun R hR => ?_
           dsimp only [go_sem, Nat.reduceAdd, Nat.reduceMul, Nat.reduceSub, Nat.reduceBEq, Nat.reduceLeDiff, Nat.reduceEqDiff, ↓dreduceIte, toG, tb25_10, tb25_38, conAfter, conItemOk]
           try simp (disch := omega) only [guardP_T, guardP_pos, iteN, rd_set, List.set_set, List.length_set, eta_fact, eta_rumor, eta_doubt, eta_item, eta_rec, eta_due, look, look0, rd_toNat, wrap64, Int.toNat_natCast, Nat.zero_add, List.take_length, List.drop_zero, and_self, setB_len, true_and, and_true]
           with_reducible refine hR _ ?_
           clear hR R)
        | (with_reducible refine kon_ins fun R hR => ?_
           dsimp only [go_sem, Nat.reduceAdd, Nat.reduceMul, Nat.reduceSub, Nat.reduceBEq, Nat.reduceLeDiff, Nat.reduceEqDiff, ↓dreduceIte, toG, tb25_10, tb25_38, conAfter, conItemOk]
           first
             | with_reducible refine hR _ ?_
             | (simp (disch := omega) only [guardP_T, guardP_pos, iteN, rd_set, List.set_set, List.length_set, eta_fact, eta_rumor, eta_doubt, eta_item, eta_rec, eta_due, look, look0, rd_toNat, wrap64, Int.toNat_natCast, Nat.zero_add, List.take_length, List.drop_zero, and_self, setB_len, true_and, and_true]
                try dsimp only [go_sem, Nat.reduceAdd, Nat.reduceMul, Nat.reduceSub, Nat.reduceBEq, Nat.reduceLeDiff, Nat.reduceEqDiff, ↓dreduceIte, toG, tb25_10, tb25_38, conAfter, conItemOk]
                try simp (disch := omega) only [guardP_T, guardP_pos, iteN, rd_set, List.set_set, List.length_set, eta_fact, eta_rumor, eta_doubt, eta_item, eta_rec, eta_due, look, look0, rd_toNat, wrap64, Int.toNat_natCast, Nat.zero_add, List.take_length, List.drop_zero, and_self, setB_len, true_and, and_true]
                with_reducible refine hR _ ?_)
           clear hR R)
        | (with_reducible refine kon_g_run ?_ ?_
           · dsimp only [nth] <;> with_reducible rfl)
        | (with_reducible refine kon_g_skip ?_ ?_
           · dsimp only [nth, not_t', not_f'] <;> with_reducible rfl
           dsimp only [go_sem])
        | (with_reducible refine kon_g_undef ?_ ?_
           · dsimp only [nth] <;> with_reducible rfl
           dsimp only [go_sem])
        | (with_reducible refine kon_g fun R hR => ?_
           dsimp only [go_sem, Nat.reduceAdd, Nat.reduceMul, Nat.reduceSub, Nat.reduceBEq, Nat.reduceLeDiff, Nat.reduceEqDiff, ↓dreduceIte, toG, tb25_10, tb25_38, conAfter, conItemOk]
           split <;> (rename_i hb; with_reducible refine hR _ ?_; clear hR R; try simp only [hb]; try simp only [decide_eq_true_eq, decide_eq_false_iff_not, beq_iff_eq, beq_eq_false_iff_ne, bne_iff_ne, bne_eq_false_iff_eq, Bool.not_eq_true, Bool.not_eq_false, Bool.not_eq_eq_eq_not, Bool.not_true, Bool.not_false, ne_eq, Int.not_lt, Int.not_le, eq_self, not_true_eq_false, not_false_eq_true, decide_true, decide_false, Bool.and_eq_true, Bool.or_eq_true, Bool.and_eq_false_iff, Bool.or_eq_false_iff, gt_iff_lt, ge_iff_le, Bool.false_eq_true, Bool.true_eq_false, reduceCtorEq, or_false, false_or, or_true, true_or, false_and, and_false] at hb; try (exfalso; omega)))
        | (with_reducible refine kon_cond fun R1 R2 h1 h2 => ?_
           dsimp only [go_sem]
           first
             | (with_reducible refine h1 ?_; clear h1 h2 R1 R2)
             | (with_reducible refine h2 ?_; clear h1 h2 R1 R2)
             | (split <;> rename_i hb <;> first
                 | (with_reducible refine h1 ?_; clear h1 h2 R1 R2; try simp only [hb]; try simp only [decide_eq_true_eq, decide_eq_false_iff_not, beq_iff_eq, beq_eq_false_iff_ne, bne_iff_ne, bne_eq_false_iff_eq, Bool.not_eq_true, Bool.not_eq_false, Bool.not_eq_eq_eq_not, Bool.not_true, Bool.not_false, ne_eq, Int.not_lt, Int.not_le, eq_self, not_true_eq_false, not_false_eq_true, decide_true, decide_false, Bool.and_eq_true, Bool.or_eq_true, Bool.and_eq_false_iff, Bool.or_eq_false_iff, gt_iff_lt, ge_iff_le, Bool.false_eq_true, Bool.true_eq_false, reduceCtorEq, or_false, false_or, or_true, true_or, false_and, and_false] at hb; try (exfalso; omega))
                 | (with_reducible refine h2 ?_; clear h1 h2 R1 R2; try simp only [hb]; try simp only [decide_eq_true_eq, decide_eq_false_iff_not, beq_iff_eq, beq_eq_false_iff_ne, bne_iff_ne, bne_eq_false_iff_eq, Bool.not_eq_true, Bool.not_eq_false, Bool.not_eq_eq_eq_not, Bool.not_true, Bool.not_false, ne_eq, Int.not_lt, Int.not_le, eq_self, not_true_eq_false, not_false_eq_true, decide_true, decide_false, Bool.and_eq_true, Bool.or_eq_true, Bool.and_eq_false_iff, Bool.or_eq_false_iff, gt_iff_lt, ge_iff_le, Bool.false_eq_true, Bool.true_eq_false, reduceCtorEq, or_false, false_or, or_true, true_or, false_and, and_false] at hb; try (exfalso; omega))))
        | (with_reducible refine kon_rounds [0, 3, 6, 7, 8] (fun n s => ∃ (i : Int) (d : Int), ((0 ≤ i) ∧ (i ≤ l.length) ∧ (0 ≤ d) ∧ (d ≤ 3) ∧ (planGo 0 l = planGo d (l.drop i.toNat))) ∧ n = (l.length - i).toNat ∧ s.m = [] ∧ s.t = [.sl .item l, nth s.t 1, nth s.t 2, .int .i64 d, nth s.t 4, nth s.t 5, .sl .item l, .int .i64 l.length, .int .i64 i, nth s.t 9, nth s.t 10, nth s.t 11, nth s.t 12, nth s.t 13, nth s.t 14, nth s.t 15, nth s.t 16, nth s.t 17, nth s.t 18, nth s.t 19, nth s.t 20, nth s.t 21, nth s.t 22, nth s.t 23, nth s.t 24, nth s.t 25, nth s.t 26, nth s.t 27, nth s.t 28, nth s.t 29]) ?_ ?_
           all_goals first
             | (rintro n ⟨t, m⟩ ⟨i, d, ⟨hI0, hI1, hI2, hI3, hI4⟩, rfl, hm, ht⟩
                dsimp only at hm ht
                subst hm
                rw [ht]
                clear ht)
             | (dsimp only [go_sem, Nat.reduceAdd, Nat.reduceMul, Nat.reduceSub, Nat.reduceBEq, Nat.reduceLeDiff, Nat.reduceEqDiff, ↓dreduceIte, toG, tb25_10, tb25_38, conAfter, conItemOk]
                refine ⟨_, _, _, ⟨?_, ?_, ?_, ?_, ?_⟩, rfl, rfl, rfl⟩))
        | (with_reducible refine loop_again (keep := [0, 3, 6, 7, 8]) ?_
           dsimp only [go_sem, Nat.reduceAdd, Nat.reduceMul, Nat.reduceSub, Nat.reduceBEq, Nat.reduceLeDiff, Nat.reduceEqDiff, ↓dreduceIte, toG, tb25_10, tb25_38, conAfter, conItemOk]
           refine ⟨_, ?_, _, _, ⟨?_, ?_, ?_, ?_, ?_⟩, rfl, rfl, rfl⟩)
      all_goals first
        | (dsimp only [kon]
           with_reducible refine hQ _ _ _ ?_
           dsimp only [kon, endQ, af25, conPlanOk, go_sem, Nat.reduceAdd, Nat.reduceMul, Nat.reduceSub, Nat.reduceBEq, Nat.reduceLeDiff, Nat.reduceEqDiff, ↓dreduceIte, toG, tb25_10, tb25_38, conAfter, conItemOk]
           try simp (disch := omega) only [guardP_T, guardP_pos, iteN, rd_set, List.set_set, List.length_set, eta_fact, eta_rumor, eta_doubt, eta_item, eta_rec, eta_due, look, look0, rd_toNat, wrap64, Int.toNat_natCast, Nat.zero_add, List.take_length, List.drop_zero, and_self, setB_len, true_and, and_true]
           try dsimp only [go_sem, Nat.reduceAdd, Nat.reduceMul, Nat.reduceSub, Nat.reduceBEq, Nat.reduceLeDiff, Nat.reduceEqDiff, ↓dreduceIte, toG, tb25_10, tb25_38, conAfter, conItemOk])
        | skip
      all_goals try first
        | omega
        | (simp; done)
        | (simp; omega)
      all_goals first
        | (have hlt : i < l.length := by omega
           have hok2 : itemOk (rd l i) = true := by assumption
           by_cases hq : afterI d (rd l i) < 0
           · have hn := (after_neg (x := rd l i) hI2 hI3).1 hq
             have h2 : (decide (0 ≤ dnext d (rd l i)) && decide (dnext d (rd l i) ≤ 3)) = false := by
               simp
               omega
             first
               | (exfalso; omega)
               | (simp only [planOk, hI4]
                  rw [planGo_step (by omega) (by omega), h2]
                  simp)
           · obtain ⟨e1, e2, e3⟩ := after_eq (x := rd l i) hI2 hI3 (by omega)
             first
               | omega
               | (rw [hI4, planGo_step (by omega) (by omega), e1]
                  simp_all))
        | (simp only [planOk, hI4]
           rw [planGo_step (by omega) (by omega)]
           simp_all
           done)
        | (simp only [planOk, hI4]
           rw [drop_all (by omega), show decide (l.length ≤ 40) = true from decide_eq_true (by omega)]
           rfl)
        | (simp [planOk]; omega)
    · simp at h'

end Go.Proofs.Ytbiefokigponpaa
