/- Judge. -/
import Derived.Test.YtpinkajnaeacdaaJudA
namespace Go.Proofs.Ytpinkajnaeacdaa
set_option linter.unusedVariables false
set_option linter.unusedSimpArgs false
set_option linter.unnecessarySimpa false

def brFrom (l : List Rec) (i : Int) : Nat → Int → Int
  | 0, _ => 0
  | n + 1, c => if breaksI l i c = true then c else brFrom l i n (c + 1)

def linesI (l : List Rec) (i c : Int) : List Int := if 0 ≤ shownI l i c then [shownI l i c, i] else [i]

def judFrom (l : List Rec) : Nat → Int → Int × List Int × Int
  | 0, _ => (0, [], 0)
  | n + 1, i => if brFrom l i 9 1 = 0 then judFrom l n (i + 1) else (brFrom l i 9 1, linesI l i (brFrom l i 9 1), 10)

def judR (l : List Rec) : Int × List Int × Int := if 400 < l.length then (0, [], 2) else if recsOk l = true then judFrom l l.length 0 else (0, [], 1)

theorem brFrom_no {l : List Rec} {i c : Int} (h : c ≤ 9) (hb : breaksI l i c = false) : brFrom l i (10 - c).toNat c = brFrom l i (10 - (c + 1)).toNat (c + 1) := by
  rw [show (10 - c).toNat = (10 - (c + 1)).toNat + 1 by omega, brFrom, hb]
  rfl

theorem brFrom_yes {l : List Rec} {i c : Int} (h : c ≤ 9) (hb : breaksI l i c = true) : brFrom l i (10 - c).toNat c = c := by
  rw [show (10 - c).toNat = (10 - (c + 1)).toNat + 1 by omega, brFrom, if_pos hb]

theorem judFrom_no {l : List Rec} {i : Int} (h : i < l.length) (hb : brFrom l i 9 1 = 0) : judFrom l (l.length - i).toNat i = judFrom l (l.length - (i + 1)).toNat (i + 1) := by
  rw [show ((l.length : Int) - i).toNat = ((l.length : Int) - (i + 1)).toNat + 1 by omega, judFrom, if_pos hb]

theorem judFrom_yes {l : List Rec} {i c : Int} (h : i < l.length) (hc : 1 ≤ c) (hb : brFrom l i 9 1 = c) : judFrom l (l.length - i).toNat i = (c, linesI l i c, 10) := by
  rw [show ((l.length : Int) - i).toNat = ((l.length : Int) - (i + 1)).toNat + 1 by omega, judFrom, hb, if_neg (by omega)]

theorem linesI_length (l : List Rec) (i c : Int) : (linesI l i c).length ≤ 2 := by
  unfold linesI
  split <;> simp

theorem judFrom_length (l : List Rec) (n : Nat) (i : Int) : (judFrom l n i).2.1.length ≤ 2 := by
  induction n generalizing i with
  | zero => simp [judFrom]
  | succ n ih =>
    rw [judFrom]
    split
    · exact ih _
    · exact linesI_length _ _ _

theorem judR_length (l : List Rec) : (judR l).2.1.length ≤ 2 := by
  unfold judR
  split
  · simp
  · split
    · exact judFrom_length _ _ _
    · simp

theorem judR_ok {l : List Rec} (h : l.all recOk = true ∧ l.length ≤ 400) : judR l = judFrom l l.length 0 := by
  have hr : recsOk l = true := by rw [recsOk_iff]; exact h
  unfold judR
  rw [if_neg (by omega), if_pos hr]

theorem jud_found {l : List Rec} {i c : Int} (h1 : 1 ≤ c) (h9 : c ≤ 9) (hi : i < l.length) (hb : breaksI l i c = true) (h2 : brFrom l i 9 1 = brFrom l i (10 - c).toNat c) (h3 : judFrom l l.length 0 = judFrom l (l.length - i).toNat i) : judFrom l l.length 0 = (c, linesI l i c, 10) := by
  rw [brFrom_yes h9 hb] at h2
  rw [h3, judFrom_yes hi h1 h2]

theorem jud_end {l : List Rec} {i : Int} (h : (l.length : Int) ≤ i) (h3 : judFrom l l.length 0 = judFrom l (l.length - i).toNat i) : judFrom l l.length 0 = (0, [], 0) := by
  rw [h3, show ((l.length : Int) - i).toNat = 0 by omega]
  rfl

theorem br_end {l : List Rec} {i c : Int} (h : 9 < c) (h2 : brFrom l i 9 1 = brFrom l i (10 - c).toNat c) : brFrom l i 9 1 = 0 := by
  rw [h2, show (10 - c).toNat = 0 by omega]
  rfl

def conLong : Con := ⟨[.imm .rcd], .v, fun as => match as with
  | [.sl .rcd l] => some (.bool (decide (400 < l.length)), [])
  | _ => none⟩

def conJudge : Con := ⟨[.imm .rcd], .agg [.v, .own .int, .v], fun as => match as with
  | [.sl .rcd l] => some (.agg [.int .i64 (judR l).1, .own .int (judR l).2.1, .int .i64 (judR l).2.2], [])
  | _ => none⟩

def recN (l : List Rec) : Int := if recsOk l = true then 1 else 0
theorem recN_iff (l : List Rec) : (recsOk l = true) = (recN l = 1) := by
  unfold recN
  by_cases h : recsOk l = true <;> simp [h]

def conJudgeS : Con := ⟨[.imm .rcd], .agg [.v, .own .int, .v], fun as => match as with
  | [.sl .rcd l] => guardP (l.length ≤ 400 ∧ recN l = 1) (some (.agg [.int .i64 (judFrom l l.length 0).1, .own .int (judFrom l l.length 0).2.1, .int .i64 (judFrom l l.length 0).2.2], []))
  | _ => none⟩

-- loop.example/g00678/impl.longList[loop.example/g00678/impl.Rec] hows []
def af92 : AF := ⟨6, [.t 2],
  .seq (.reg [⟨some 2, .mv (.b false), none⟩])
  (.seq (.reg [⟨some 3, .mv (.t 0), none⟩,
    ⟨some 4, .len (.t 3), none⟩,
    ⟨some 5, .bin .gtr (.t 4) (.i 400), none⟩,
    ⟨some 2, .mv (.t 5), none⟩])
  (.ret))⟩

set_option maxHeartbeats 4000000 in
theorem does92 (as : List AV) (hok : ok 64 as) : Does tbNone af92 conLong as := by
  cases h : (conLong).run as with
  | none => exact does_none h
  | some out =>
    have h' := h
    simp only [conLong] at h'
    split at h'
    · rename_i l
      simp only [ok] at hok
      obtain ⟨⟨hlen, _⟩, _⟩ := hok
      simp only [Option.some.injEq] at h'
      subst h'
      have hmo : (most : Int) = 1099511627776 := rfl
      have hml : (maxLen : Int) = 9223372036854775807 := rfl
      with_reducible refine does_by h fun Q hQ => ?_
      clear h
      dsimp only [af92, conLong, go_sem, Nat.reduceAdd, Nat.reduceMul, Nat.reduceSub, Nat.reduceBEq, Nat.reduceLeDiff, Nat.reduceEqDiff, ↓dreduceIte, toG]
      repeat' first
        | with_reducible refine kon_seq ?_
        | with_reducible refine kon_nil ?_
        | with_reducible refine kon_skip ?_
        | with_reducible refine kon_block ?_
        | with_reducible refine kon_ret ?_
        | with_reducible refine kon_exit ?_
        | with_reducible refine kon_past_ret ?_
        | with_reducible refine kon_past_exit ?_
        | with_reducible refine kon_blk_ret ?_
        | with_reducible refine kon_blk_end ?_
        | with_reducible refine kon_blk_exit ?_
        | (with_reducible refine kon_blk_past ?_ ?_
           · decide)
        | with_reducible refine loop_exit ?_
        | with_reducible refine loop_ret ?_
        | with_reducible refine mid_exit ?_
        | with_reducible refine mid_ret ?_
        | (with_reducible refine kon_bin fun R hR => ?_
           dsimp only [go_sem, Nat.reduceAdd, Nat.reduceMul, Nat.reduceSub, Nat.reduceBEq, Nat.reduceLeDiff, Nat.reduceEqDiff, ↓dreduceIte, toG]
           try simp (disch := first | omega | (simp only [List.length_set, List.length_append, List.length_cons, List.length_nil, List.length_replicate]; omega)) only [guardP_T, guardP_pos, iteN, rd_set, List.set_set, List.length_set, eta_fact, eta_rumor, eta_doubt, eta_item, eta_rec, eta_due, look, look0, rd_toNat, wrap64, Int.toNat_natCast, Nat.zero_add, List.take_length, List.drop_zero, and_self, setB_len, true_and, and_true]
           with_reducible refine hR _ ?_
           clear hR R)
        | (with_reducible refine kon_conv fun R hR => ?_
           dsimp only [go_sem, Nat.reduceAdd, Nat.reduceMul, Nat.reduceSub, Nat.reduceBEq, Nat.reduceLeDiff, Nat.reduceEqDiff, ↓dreduceIte, toG]
           try simp (disch := first | omega | (simp only [List.length_set, List.length_append, List.length_cons, List.length_nil, List.length_replicate]; omega)) only [guardP_T, guardP_pos, iteN, rd_set, List.set_set, List.length_set, eta_fact, eta_rumor, eta_doubt, eta_item, eta_rec, eta_due, look, look0, rd_toNat, wrap64, Int.toNat_natCast, Nat.zero_add, List.take_length, List.drop_zero, and_self, setB_len, true_and, and_true]
           with_reducible refine hR _ ?_
           clear hR R)
        | (with_reducible refine kon_ins fun R hR => ?_
           dsimp only [go_sem, Nat.reduceAdd, Nat.reduceMul, Nat.reduceSub, Nat.reduceBEq, Nat.reduceLeDiff, Nat.reduceEqDiff, ↓dreduceIte, toG]
           first
             | with_reducible refine hR _ ?_
             | (simp (disch := first | omega | (simp only [List.length_set, List.length_append, List.length_cons, List.length_nil, List.length_replicate]; omega)) only [guardP_T, guardP_pos, iteN, rd_set, List.set_set, List.length_set, eta_fact, eta_rumor, eta_doubt, eta_item, eta_rec, eta_due, look, look0, rd_toNat, wrap64, Int.toNat_natCast, Nat.zero_add, List.take_length, List.drop_zero, and_self, setB_len, true_and, and_true]
                try dsimp only [go_sem, Nat.reduceAdd, Nat.reduceMul, Nat.reduceSub, Nat.reduceBEq, Nat.reduceLeDiff, Nat.reduceEqDiff, ↓dreduceIte, toG]
                try simp (disch := first | omega | (simp only [List.length_set, List.length_append, List.length_cons, List.length_nil, List.length_replicate]; omega)) only [guardP_T, guardP_pos, iteN, rd_set, List.set_set, List.length_set, eta_fact, eta_rumor, eta_doubt, eta_item, eta_rec, eta_due, look, look0, rd_toNat, wrap64, Int.toNat_natCast, Nat.zero_add, List.take_length, List.drop_zero, and_self, setB_len, true_and, and_true]
                with_reducible refine hR _ ?_)
           clear hR R)
        | (with_reducible refine kon_g_run ?_ ?_
           · dsimp only [nth] <;> with_reducible rfl)
        | (with_reducible refine kon_g_skip ?_ ?_
           · dsimp only [nth, not_t', not_f'] <;> with_reducible rfl
           dsimp only [go_sem])
        | (with_reducible refine kon_g_undef ?_ ?_
           · dsimp only [nth] <;> with_reducible rfl
           dsimp only [go_sem])
        | (with_reducible refine kon_g fun R hR => ?_
           dsimp only [go_sem, Nat.reduceAdd, Nat.reduceMul, Nat.reduceSub, Nat.reduceBEq, Nat.reduceLeDiff, Nat.reduceEqDiff, ↓dreduceIte, toG]
           split <;> (rename_i hb; with_reducible refine hR _ ?_; clear hR R; try simp only [hb]; try simp only [decide_eq_true_eq, decide_eq_false_iff_not, beq_iff_eq, beq_eq_false_iff_ne, bne_iff_ne, bne_eq_false_iff_eq, Bool.not_eq_true, Bool.not_eq_false, Bool.not_eq_eq_eq_not, Bool.not_true, Bool.not_false, ne_eq, Int.not_lt, Int.not_le, eq_self, not_true_eq_false, not_false_eq_true, decide_true, decide_false, Bool.and_eq_true, Bool.or_eq_true, Bool.and_eq_false_iff, Bool.or_eq_false_iff, gt_iff_lt, ge_iff_le, Bool.false_eq_true, Bool.true_eq_false, reduceCtorEq, or_false, false_or, or_true, true_or, false_and, and_false] at hb; try (exfalso; omega)))
        | (with_reducible refine kon_cond fun R1 R2 h1 h2 => ?_
           dsimp only [go_sem]
           first
             | (with_reducible refine h1 ?_; clear h1 h2 R1 R2)
             | (with_reducible refine h2 ?_; clear h1 h2 R1 R2)
             | (split <;> rename_i hb <;> first
                 | (with_reducible refine h1 ?_; clear h1 h2 R1 R2; try simp only [hb]; try simp only [decide_eq_true_eq, decide_eq_false_iff_not, beq_iff_eq, beq_eq_false_iff_ne, bne_iff_ne, bne_eq_false_iff_eq, Bool.not_eq_true, Bool.not_eq_false, Bool.not_eq_eq_eq_not, Bool.not_true, Bool.not_false, ne_eq, Int.not_lt, Int.not_le, eq_self, not_true_eq_false, not_false_eq_true, decide_true, decide_false, Bool.and_eq_true, Bool.or_eq_true, Bool.and_eq_false_iff, Bool.or_eq_false_iff, gt_iff_lt, ge_iff_le, Bool.false_eq_true, Bool.true_eq_false, reduceCtorEq, or_false, false_or, or_true, true_or, false_and, and_false] at hb; try (exfalso; omega))
                 | (with_reducible refine h2 ?_; clear h1 h2 R1 R2; try simp only [hb]; try simp only [decide_eq_true_eq, decide_eq_false_iff_not, beq_iff_eq, beq_eq_false_iff_ne, bne_iff_ne, bne_eq_false_iff_eq, Bool.not_eq_true, Bool.not_eq_false, Bool.not_eq_eq_eq_not, Bool.not_true, Bool.not_false, ne_eq, Int.not_lt, Int.not_le, eq_self, not_true_eq_false, not_false_eq_true, decide_true, decide_false, Bool.and_eq_true, Bool.or_eq_true, Bool.and_eq_false_iff, Bool.or_eq_false_iff, gt_iff_lt, ge_iff_le, Bool.false_eq_true, Bool.true_eq_false, reduceCtorEq, or_false, false_or, or_true, true_or, false_and, and_false] at hb; try (exfalso; omega))))
      all_goals first
        | (dsimp only [kon]
           with_reducible refine hQ _ _ _ ?_
           dsimp only [kon, endQ, af92, conLong, go_sem, Nat.reduceAdd, Nat.reduceMul, Nat.reduceSub, Nat.reduceBEq, Nat.reduceLeDiff, Nat.reduceEqDiff, ↓dreduceIte, toG]
           try simp (disch := first | omega | (simp only [List.length_set, List.length_append, List.length_cons, List.length_nil, List.length_replicate]; omega)) only [guardP_T, guardP_pos, iteN, rd_set, List.set_set, List.length_set, eta_fact, eta_rumor, eta_doubt, eta_item, eta_rec, eta_due, look, look0, rd_toNat, wrap64, Int.toNat_natCast, Nat.zero_add, List.take_length, List.drop_zero, and_self, setB_len, true_and, and_true]
           try dsimp only [go_sem, Nat.reduceAdd, Nat.reduceMul, Nat.reduceSub, Nat.reduceBEq, Nat.reduceLeDiff, Nat.reduceEqDiff, ↓dreduceIte, toG])
        | skip
      all_goals try first
        | omega
        | (simp; done)
        | (simp; omega)
      all_goals rfl
    · simp at h'

def tb50 : Tab := fun f => match f with
  | 55 => some conRecsOk
  | 79 => some conBreaksI
  | 90 => some conShownI
  | 92 => some conLong
  | _ => none

theorem tb50_55 : tb50 55 = some conRecsOk := rfl
theorem tb50_79 : tb50 79 = some conBreaksI := rfl
theorem tb50_90 : tb50 90 = some conShownI := rfl
theorem tb50_92 : tb50 92 = some conLong := rfl

-- loop.example/g00678/impl.Judge hows []
def lp50_1 : AC := .seq (.seq (.reg [⟨some 21, .mv (.t 4), none⟩,
              ⟨some 22, .bin .leq (.t 21) (.i 9), none⟩])
            (.cond (.t 22)
              (.skip)
              (.exit 3)))
            (.seq (.block 4 (.seq (.seq (.reg [⟨some 25, .mv (.t 0), none⟩,
                ⟨some 26, .mv (.t 3), none⟩,
                ⟨some 27, .mv (.t 4), none⟩,
                ⟨some 28, .call 79 [(.t 25), (.t 26), (.t 27)], none⟩,
                ⟨some 29, .un .not (.t 28), none⟩])
              (.cond (.t 29)
                (.exit 4)
                (.skip)))
              (.seq (.reg [⟨some 30, .mv (.t 3), none⟩,
                ⟨some 31, .slit .int [(.t 30)], none⟩,
                ⟨some 5, .mv (.t 31), none⟩])
              (.seq (.seq (.reg [⟨some 32, .mv (.t 0), none⟩,
                ⟨some 33, .mv (.t 3), none⟩,
                ⟨some 34, .mv (.t 4), none⟩,
                ⟨some 35, .call 90 [(.t 32), (.t 33), (.t 34)], none⟩,
                ⟨some 6, .mv (.t 35), none⟩])
              (.seq (.reg [⟨some 36, .mv (.t 6), none⟩,
                ⟨some 37, .bin .geq (.t 36) (.i 0), none⟩])
              (.cond (.t 37)
                (.reg [⟨some 38, .mv (.t 6), none⟩,
                  ⟨some 39, .mv (.t 3), none⟩,
                  ⟨some 40, .slit .int [(.t 38), (.t 39)], none⟩,
                  ⟨some 5, .mv (.t 40), none⟩])
                (.skip))))
              (.seq (.reg [⟨some 41, .mv (.t 4), none⟩,
                ⟨some 42, .mv (.t 5), none⟩,
                ⟨some 43, .build [.int .i64 0, .nil, .int .i64 0] [(0, 1, (.t 41)), (1, 1, (.t 42)), (2, 1, (.i 10))], none⟩,
                ⟨none, .st 3 (.t 2) (.t 43), none⟩])
              (.ret))))))
            (.reg [⟨some 23, .mv (.t 4), none⟩,
              ⟨some 24, .bin .add (.t 23) (.i 1), none⟩,
              ⟨some 4, .mv (.t 24), none⟩]))
def lp50_0 : AC := .seq (.reg [⟨some 19, .bin .lss (.t 18) (.t 17), none⟩])
      (.seq (.cond (.t 19)
        (.skip)
        (.exit 1))
      (.seq (.block 2 (.seq (.reg [⟨some 20, .mv (.t 18), none⟩,
          ⟨some 3, .mv (.t 20), none⟩])
        (.seq (.reg [⟨some 4, .mv (.i 1), none⟩])
        (.block 3 (.loop lp50_1)))))
      (.reg [⟨some 44, .bin .add (.t 18) (.i 1), none⟩,
        ⟨some 18, .mv (.t 44), none⟩])))
def af50 : AF := ⟨46, [.cell 2 true 3],
  .seq (.reg [⟨some 2, .box (.c (.agg [.int .i64 0, .nil, .int .i64 0])), none⟩])
  (.seq (.block 0 (.seq (.reg [⟨some 8, .mv (.t 0), none⟩,
      ⟨some 9, .call 92 [(.t 8)], none⟩,
      ⟨some 7, .mv (.t 9), none⟩])
    (.cond (.t 7)
      (.seq (.reg [⟨some 10, .build [.int .i64 0, .nil, .int .i64 0] [(2, 1, (.i 2))], none⟩,
        ⟨none, .st 3 (.t 2) (.t 10), none⟩])
      (.ret))
      (.seq (.reg [⟨some 12, .mv (.t 0), none⟩,
        ⟨some 13, .call 55 [(.t 12)], none⟩,
        ⟨some 14, .un .not (.t 13), none⟩,
        ⟨some 11, .mv (.t 14), none⟩])
      (.cond (.t 11)
        (.seq (.reg [⟨some 15, .build [.int .i64 0, .nil, .int .i64 0] [(2, 1, (.i 1))], none⟩,
          ⟨none, .st 3 (.t 2) (.t 15), none⟩])
        (.ret))
        (.skip))))))
  (.seq (.seq (.reg [⟨some 16, .mv (.t 0), none⟩,
    ⟨some 17, .len (.t 16), none⟩,
    ⟨some 18, .mv (.i 0), none⟩])
  (.block 1 (.loop lp50_0)))
  (.seq (.reg [⟨some 45, .build [.int .i64 0, .nil, .int .i64 0] [], none⟩,
    ⟨none, .st 3 (.t 2) (.t 45), none⟩])
  (.ret))))⟩

set_option maxHeartbeats 4000000 in
theorem does50 (as : List AV) (hok : ok 64 as) : Does tb50 af50 conJudge as := by
  cases h : (conJudge).run as with
  | none => exact does_none h
  | some out =>
    have h' := h
    simp only [conJudge] at h'
    split at h'
    · rename_i l
      simp only [ok] at hok
      obtain ⟨⟨hlen, _⟩, _⟩ := hok
      simp only [Option.some.injEq] at h'
      subst h'
      have hmo : (most : Int) = 1099511627776 := rfl
      have hml : (maxLen : Int) = 9223372036854775807 := rfl
      with_reducible refine does_by h fun Q hQ => ?_
      clear h
      dsimp only [af50, conJudge, go_sem, Nat.reduceAdd, Nat.reduceMul, Nat.reduceSub, Nat.reduceBEq, Nat.reduceLeDiff, Nat.reduceEqDiff, ↓dreduceIte, toG, tb50_55, tb50_79, tb50_90, tb50_92, conBreaksI, conLong, conRecsOk, conShownI]
      repeat' first
        | with_reducible refine kon_seq ?_
        | with_reducible refine kon_nil ?_
        | with_reducible refine kon_skip ?_
        | with_reducible refine kon_block ?_
        | with_reducible refine kon_ret ?_
        | with_reducible refine kon_exit ?_
        | with_reducible refine kon_past_ret ?_
        | with_reducible refine kon_past_exit ?_
        | with_reducible refine kon_blk_ret ?_
        | with_reducible refine kon_blk_end ?_
        | with_reducible refine kon_blk_exit ?_
        | (with_reducible refine kon_blk_past ?_ ?_
           · decide)
        | with_reducible refine loop_exit ?_
        | with_reducible refine loop_ret ?_
        | with_reducible refine mid_exit ?_
        | with_reducible refine mid_ret ?_
        | (with_reducible refine kon_bin fun R hR => ?_
           dsimp only [go_sem, Nat.reduceAdd, Nat.reduceMul, Nat.reduceSub, Nat.reduceBEq, Nat.reduceLeDiff, Nat.reduceEqDiff, ↓dreduceIte, toG, tb50_55, tb50_79, tb50_90, tb50_92, conBreaksI, conLong, conRecsOk, conShownI]
           try simp (disch := first | omega | (simp only [List.length_set, List.length_append, List.length_cons, List.length_nil, List.length_replicate]; omega)) only [guardP_T, guardP_pos, iteN, rd_set, List.set_set, List.length_set, eta_fact, eta_rumor, eta_doubt, eta_item, eta_rec, eta_due, look, look0, rd_toNat, wrap64, Int.toNat_natCast, Nat.zero_add, List.take_length, List.drop_zero, and_self, setB_len, true_and, and_true, brk_iff, recsOk_iff']
           with_reducible refine hR _ ?_
           clear hR R)
        | (with_reducible refine kon_conv fun R hR => ?_
           dsimp only [go_sem, Nat.reduceAdd, Nat.reduceMul, Nat.reduceSub, Nat.reduceBEq, Nat.reduceLeDiff, Nat.reduceEqDiff, ↓dreduceIte, toG, tb50_55, tb50_79, tb50_90, tb50_92, conBreaksI, conLong, conRecsOk, conShownI]
           try simp (disch := first | omega | (simp only [List.length_set, List.length_append, List.length_cons, List.length_nil, List.length_replicate]; omega)) only [guardP_T, guardP_pos, iteN, rd_set, List.set_set, List.length_set, eta_fact, eta_rumor, eta_doubt, eta_item, eta_rec, eta_due, look, look0, rd_toNat, wrap64, Int.toNat_natCast, Nat.zero_add, List.take_length, List.drop_zero, and_self, setB_len, true_and, and_true, brk_iff, recsOk_iff']
           with_reducible refine hR _ ?_
           clear hR R)
        | (with_reducible refine kon_ins fun R hR => ?_
           dsimp only [go_sem, Nat.reduceAdd, Nat.reduceMul, Nat.reduceSub, Nat.reduceBEq, Nat.reduceLeDiff, Nat.reduceEqDiff, ↓dreduceIte, toG, tb50_55, tb50_79, tb50_90, tb50_92, conBreaksI, conLong, conRecsOk, conShownI]
           first
             | with_reducible refine hR _ ?_
             | (simp (disch := first | omega | (simp only [List.length_set, List.length_append, List.length_cons, List.length_nil, List.length_replicate]; omega)) only [guardP_T, guardP_pos, iteN, rd_set, List.set_set, List.length_set, eta_fact, eta_rumor, eta_doubt, eta_item, eta_rec, eta_due, look, look0, rd_toNat, wrap64, Int.toNat_natCast, Nat.zero_add, List.take_length, List.drop_zero, and_self, setB_len, true_and, and_true, brk_iff, recsOk_iff']
                try dsimp only [go_sem, Nat.reduceAdd, Nat.reduceMul, Nat.reduceSub, Nat.reduceBEq, Nat.reduceLeDiff, Nat.reduceEqDiff, ↓dreduceIte, toG, tb50_55, tb50_79, tb50_90, tb50_92, conBreaksI, conLong, conRecsOk, conShownI]
                try simp (disch := first | omega | (simp only [List.length_set, List.length_append, List.length_cons, List.length_nil, List.length_replicate]; omega)) only [guardP_T, guardP_pos, iteN, rd_set, List.set_set, List.length_set, eta_fact, eta_rumor, eta_doubt, eta_item, eta_rec, eta_due, look, look0, rd_toNat, wrap64, Int.toNat_natCast, Nat.zero_add, List.take_length, List.drop_zero, and_self, setB_len, true_and, and_true, brk_iff, recsOk_iff']
                with_reducible refine hR _ ?_)
           clear hR R)
        | (with_reducible refine kon_g_run ?_ ?_
           · dsimp only [nth] <;> with_reducible rfl)
        | (with_reducible refine kon_g_skip ?_ ?_
           · dsimp only [nth, not_t', not_f'] <;> with_reducible rfl
           dsimp only [go_sem])
        | (with_reducible refine kon_g_undef ?_ ?_
           · dsimp only [nth] <;> with_reducible rfl
           dsimp only [go_sem])
        | (with_reducible refine kon_g fun R hR => ?_
           dsimp only [go_sem, Nat.reduceAdd, Nat.reduceMul, Nat.reduceSub, Nat.reduceBEq, Nat.reduceLeDiff, Nat.reduceEqDiff, ↓dreduceIte, toG, tb50_55, tb50_79, tb50_90, tb50_92, conBreaksI, conLong, conRecsOk, conShownI]
           split <;> (rename_i hb; with_reducible refine hR _ ?_; clear hR R; try simp only [hb]; try simp only [decide_eq_true_eq, decide_eq_false_iff_not, beq_iff_eq, beq_eq_false_iff_ne, bne_iff_ne, bne_eq_false_iff_eq, Bool.not_eq_true, Bool.not_eq_false, Bool.not_eq_eq_eq_not, Bool.not_true, Bool.not_false, ne_eq, Int.not_lt, Int.not_le, eq_self, not_true_eq_false, not_false_eq_true, decide_true, decide_false, Bool.and_eq_true, Bool.or_eq_true, Bool.and_eq_false_iff, Bool.or_eq_false_iff, gt_iff_lt, ge_iff_le, Bool.false_eq_true, Bool.true_eq_false, reduceCtorEq, or_false, false_or, or_true, true_or, false_and, and_false, brk_iff, recsOk_iff'] at hb; try (exfalso; omega)))
        | (with_reducible refine kon_cond fun R1 R2 h1 h2 => ?_
           dsimp only [go_sem]
           first
             | (with_reducible refine h1 ?_; clear h1 h2 R1 R2)
             | (with_reducible refine h2 ?_; clear h1 h2 R1 R2)
             | (split <;> rename_i hb <;> first
                 | (with_reducible refine h1 ?_; clear h1 h2 R1 R2; try simp only [hb]; try simp only [decide_eq_true_eq, decide_eq_false_iff_not, beq_iff_eq, beq_eq_false_iff_ne, bne_iff_ne, bne_eq_false_iff_eq, Bool.not_eq_true, Bool.not_eq_false, Bool.not_eq_eq_eq_not, Bool.not_true, Bool.not_false, ne_eq, Int.not_lt, Int.not_le, eq_self, not_true_eq_false, not_false_eq_true, decide_true, decide_false, Bool.and_eq_true, Bool.or_eq_true, Bool.and_eq_false_iff, Bool.or_eq_false_iff, gt_iff_lt, ge_iff_le, Bool.false_eq_true, Bool.true_eq_false, reduceCtorEq, or_false, false_or, or_true, true_or, false_and, and_false, brk_iff, recsOk_iff'] at hb; try (exfalso; omega))
                 | (with_reducible refine h2 ?_; clear h1 h2 R1 R2; try simp only [hb]; try simp only [decide_eq_true_eq, decide_eq_false_iff_not, beq_iff_eq, beq_eq_false_iff_ne, bne_iff_ne, bne_eq_false_iff_eq, Bool.not_eq_true, Bool.not_eq_false, Bool.not_eq_eq_eq_not, Bool.not_true, Bool.not_false, ne_eq, Int.not_lt, Int.not_le, eq_self, not_true_eq_false, not_false_eq_true, decide_true, decide_false, Bool.and_eq_true, Bool.or_eq_true, Bool.and_eq_false_iff, Bool.or_eq_false_iff, gt_iff_lt, ge_iff_le, Bool.false_eq_true, Bool.true_eq_false, reduceCtorEq, or_false, false_or, or_true, true_or, false_and, and_false, brk_iff, recsOk_iff'] at hb; try (exfalso; omega))))
        | (with_reducible refine kon_rounds (a := lp50_0) [0, 2, 17, 18] (fun n9 s9 => ∃ (i : Int), ((0 ≤ i) ∧ (i ≤ l.length) ∧ (judFrom l l.length 0 = judFrom l (l.length - i).toNat i) ∧ (l.all recOk = true ∧ l.length ≤ 400)) ∧ n9 = (l.length - i).toNat ∧ s9.m = [.cells [.int .i64 0, .nil, .int .i64 0]] ∧ s9.t = [.sl .rcd l, nth s9.t 1, .ptr 0 0, nth s9.t 3, nth s9.t 4, nth s9.t 5, nth s9.t 6, nth s9.t 7, nth s9.t 8, nth s9.t 9, nth s9.t 10, nth s9.t 11, nth s9.t 12, nth s9.t 13, nth s9.t 14, nth s9.t 15, nth s9.t 16, .int .i64 l.length, .int .i64 i, nth s9.t 19, nth s9.t 20, nth s9.t 21, nth s9.t 22, nth s9.t 23, nth s9.t 24, nth s9.t 25, nth s9.t 26, nth s9.t 27, nth s9.t 28, nth s9.t 29, nth s9.t 30, nth s9.t 31, nth s9.t 32, nth s9.t 33, nth s9.t 34, nth s9.t 35, nth s9.t 36, nth s9.t 37, nth s9.t 38, nth s9.t 39, nth s9.t 40, nth s9.t 41, nth s9.t 42, nth s9.t 43, nth s9.t 44, nth s9.t 45]) ?_ ?_
           all_goals first
             | (rintro n9 ⟨t9, m9⟩ ⟨i, ⟨hI0, hI1, hI2, hI3⟩, rfl, hm9, ht9⟩
                dsimp only at hm9 ht9
                subst hm9
                rw [ht9]
                clear ht9
                dsimp only [lp50_0])
             | (dsimp only [go_sem, Nat.reduceAdd, Nat.reduceMul, Nat.reduceSub, Nat.reduceBEq, Nat.reduceLeDiff, Nat.reduceEqDiff, ↓dreduceIte, toG, tb50_55, tb50_79, tb50_90, tb50_92, conBreaksI, conLong, conRecsOk, conShownI]
                refine ⟨_, _, ⟨?_, ?_, ?_, ?_⟩, rfl, rfl, rfl⟩))
        | (with_reducible refine loop_again (keep := [0, 2, 17, 18]) ?_
           dsimp only [go_sem, Nat.reduceAdd, Nat.reduceMul, Nat.reduceSub, Nat.reduceBEq, Nat.reduceLeDiff, Nat.reduceEqDiff, ↓dreduceIte, toG, tb50_55, tb50_79, tb50_90, tb50_92, conBreaksI, conLong, conRecsOk, conShownI]
           refine ⟨_, ?_, _, ⟨?_, ?_, ?_, ?_⟩, rfl, rfl, rfl⟩)
        | (with_reducible refine kon_rounds (a := lp50_1) [0, 2, 3, 4, 17, 18] (fun n9 s9 => ∃ (c : Int), ((1 ≤ c) ∧ (c ≤ 10) ∧ (brFrom l i 9 1 = brFrom l i (10 - c).toNat c) ∧ (judFrom l l.length 0 = judFrom l (l.length - i).toNat i) ∧ (l.all recOk = true ∧ l.length ≤ 400) ∧ (0 ≤ i ∧ i < l.length)) ∧ n9 = (10 - c).toNat ∧ s9.m = [.cells [.int .i64 0, .nil, .int .i64 0]] ∧ s9.t = [.sl .rcd l, nth s9.t 1, .ptr 0 0, .int .i64 i, .int .i64 c, nth s9.t 5, nth s9.t 6, nth s9.t 7, nth s9.t 8, nth s9.t 9, nth s9.t 10, nth s9.t 11, nth s9.t 12, nth s9.t 13, nth s9.t 14, nth s9.t 15, nth s9.t 16, .int .i64 l.length, .int .i64 i, nth s9.t 19, nth s9.t 20, nth s9.t 21, nth s9.t 22, nth s9.t 23, nth s9.t 24, nth s9.t 25, nth s9.t 26, nth s9.t 27, nth s9.t 28, nth s9.t 29, nth s9.t 30, nth s9.t 31, nth s9.t 32, nth s9.t 33, nth s9.t 34, nth s9.t 35, nth s9.t 36, nth s9.t 37, nth s9.t 38, nth s9.t 39, nth s9.t 40, nth s9.t 41, nth s9.t 42, nth s9.t 43, nth s9.t 44, nth s9.t 45]) ?_ ?_
           all_goals first
             | (rintro n9 ⟨t9, m9⟩ ⟨c, ⟨hI0, hI1, hI2, hI3, hI4, hI5⟩, rfl, hm9, ht9⟩
                dsimp only at hm9 ht9
                subst hm9
                rw [ht9]
                clear ht9
                dsimp only [lp50_1])
             | (dsimp only [go_sem, Nat.reduceAdd, Nat.reduceMul, Nat.reduceSub, Nat.reduceBEq, Nat.reduceLeDiff, Nat.reduceEqDiff, ↓dreduceIte, toG, tb50_55, tb50_79, tb50_90, tb50_92, conBreaksI, conLong, conRecsOk, conShownI]
                refine ⟨_, _, ⟨?_, ?_, ?_, ?_, ?_, ?_⟩, rfl, rfl, rfl⟩))
        | (with_reducible refine loop_again (keep := [0, 2, 3, 4, 17, 18]) ?_
           dsimp only [go_sem, Nat.reduceAdd, Nat.reduceMul, Nat.reduceSub, Nat.reduceBEq, Nat.reduceLeDiff, Nat.reduceEqDiff, ↓dreduceIte, toG, tb50_55, tb50_79, tb50_90, tb50_92, conBreaksI, conLong, conRecsOk, conShownI]
           refine ⟨_, ?_, _, ⟨?_, ?_, ?_, ?_, ?_, ?_⟩, rfl, rfl, rfl⟩)
      all_goals first
        | (dsimp only [kon]
           with_reducible refine hQ _ _ _ ?_
           dsimp only [kon, endQ, af50, conJudge, go_sem, Nat.reduceAdd, Nat.reduceMul, Nat.reduceSub, Nat.reduceBEq, Nat.reduceLeDiff, Nat.reduceEqDiff, ↓dreduceIte, toG, tb50_55, tb50_79, tb50_90, tb50_92, conBreaksI, conLong, conRecsOk, conShownI]
           try simp (disch := first | omega | (simp only [List.length_set, List.length_append, List.length_cons, List.length_nil, List.length_replicate]; omega)) only [guardP_T, guardP_pos, iteN, rd_set, List.set_set, List.length_set, eta_fact, eta_rumor, eta_doubt, eta_item, eta_rec, eta_due, look, look0, rd_toNat, wrap64, Int.toNat_natCast, Nat.zero_add, List.take_length, List.drop_zero, and_self, setB_len, true_and, and_true]
           try dsimp only [go_sem, Nat.reduceAdd, Nat.reduceMul, Nat.reduceSub, Nat.reduceBEq, Nat.reduceLeDiff, Nat.reduceEqDiff, ↓dreduceIte, toG, tb50_55, tb50_79, tb50_90, tb50_92, conBreaksI, conLong, conRecsOk, conShownI])
        | skip
      all_goals try first
        | omega
        | (simp; done)
        | (simp; omega)
      all_goals first
        | omega
        | (simp [judR]; omega)
        | (rw [hI2, brFrom_no (by omega) (by assumption)]; done)
        | (have hbk : breaksI l i c = true := by rw [brk_iff]; assumption
           rw [judR_ok hI4, jud_found hI0 (by omega) hI5.2 hbk hI2 hI3, linesI, if_pos (by omega)]
           done)
        | (have hbk : breaksI l i c = true := by rw [brk_iff]; assumption
           rw [judR_ok hI4, jud_found hI0 (by omega) hI5.2 hbk hI2 hI3, linesI, if_neg (by omega)]
           done)
        | (rw [hI3, judFrom_no hI5.2 (br_end (by omega) hI2)]; done)
        | (rw [judR_ok hI3, jud_end (by omega) hI2]; done)
        | (have hr : recsOk l = false := by assumption
           rw [judR, if_neg (by omega), if_neg (by rw [hr]; decide)]
           done)
        | (have hr : 400 < l.length := by omega
           rw [judR, if_pos hr]
           done)
    · simp at h'

def tb91 : Tab := fun f => match f with
  | 77 => some conBreaksS
  | 136 => some conShownS
  | _ => none

theorem tb91_77 : tb91 77 = some conBreaksS := rfl
theorem tb91_136 : tb91 136 = some conShownS := rfl

-- loop.example/g00678/spec.l12Judge hows []
def lp91_1 : AC := .seq (.seq (.reg [⟨some 13, .mv (.t 4), none⟩,
              ⟨some 14, .bin .leq (.t 13) (.i 9), none⟩])
            (.cond (.t 14)
              (.skip)
              (.exit 2)))
            (.seq (.block 3 (.seq (.seq (.reg [⟨some 17, .mv (.t 0), none⟩,
                ⟨some 18, .mv (.t 3), none⟩,
                ⟨some 19, .mv (.t 4), none⟩,
                ⟨some 20, .call 77 [(.t 17), (.t 18), (.t 19)], none⟩,
                ⟨some 21, .un .not (.t 20), none⟩])
              (.cond (.t 21)
                (.exit 3)
                (.skip)))
              (.seq (.reg [⟨some 22, .mv (.t 4), none⟩,
                ⟨some 23, .build [.int .i64 0, .nil, .int .i64 0] [(0, 1, (.t 22)), (2, 1, (.i 10))], none⟩,
                ⟨some 5, .box (.c (.agg [.int .i64 0, .nil, .int .i64 0])), none⟩,
                ⟨none, .st 3 (.t 5) (.t 23), none⟩])
              (.seq (.seq (.reg [⟨some 24, .mv (.t 0), none⟩,
                ⟨some 25, .mv (.t 3), none⟩,
                ⟨some 26, .mv (.t 4), none⟩,
                ⟨some 27, .call 136 [(.t 24), (.t 25), (.t 26)], none⟩,
                ⟨some 6, .mv (.t 27), none⟩])
              (.seq (.reg [⟨some 28, .mv (.t 6), none⟩,
                ⟨some 29, .bin .geq (.t 28) (.i 0), none⟩])
              (.cond (.t 29)
                (.reg [⟨some 30, .fa 1 (.t 5), none⟩,
                  ⟨some 31, .ld false 1 (.t 30), none⟩,
                  ⟨some 32, .mv (.t 6), none⟩,
                  ⟨some 33, .slit .int [(.t 32)], none⟩,
                  ⟨some 34, .app .int (.t 31) (.t 33), none⟩,
                  ⟨some 35, .fa 1 (.t 5), none⟩,
                  ⟨none, .st 1 (.t 35) (.t 34), none⟩])
                (.skip))))
              (.seq (.reg [⟨some 36, .fa 1 (.t 5), none⟩,
                ⟨some 37, .ld false 1 (.t 36), none⟩,
                ⟨some 38, .mv (.t 3), none⟩,
                ⟨some 39, .slit .int [(.t 38)], none⟩,
                ⟨some 40, .app .int (.t 37) (.t 39), none⟩,
                ⟨some 41, .fa 1 (.t 5), none⟩,
                ⟨none, .st 1 (.t 41) (.t 40), none⟩])
              (.seq (.reg [⟨some 42, .ld true 3 (.t 5), none⟩,
                ⟨none, .st 3 (.t 2) (.t 42), none⟩])
              (.ret)))))))
            (.reg [⟨some 15, .mv (.t 4), none⟩,
              ⟨some 16, .bin .add (.t 15) (.i 1), none⟩,
              ⟨some 4, .mv (.t 16), none⟩]))
def lp91_0 : AC := .seq (.seq (.reg [⟨some 7, .mv (.t 3), none⟩,
        ⟨some 8, .mv (.t 0), none⟩,
        ⟨some 9, .len (.t 8), none⟩,
        ⟨some 10, .bin .lss (.t 7) (.t 9), none⟩])
      (.cond (.t 10)
        (.skip)
        (.exit 0)))
      (.seq (.block 1 (.seq (.reg [⟨some 4, .mv (.i 1), none⟩])
        (.block 2 (.loop lp91_1))))
      (.reg [⟨some 11, .mv (.t 3), none⟩,
        ⟨some 12, .bin .add (.t 11) (.i 1), none⟩,
        ⟨some 3, .mv (.t 12), none⟩]))
def af91 : AF := ⟨44, [.cell 2 true 3],
  .seq (.reg [⟨some 2, .box (.c (.agg [.int .i64 0, .nil, .int .i64 0])), none⟩])
  (.seq (.seq (.reg [⟨some 3, .mv (.i 0), none⟩])
  (.block 0 (.loop lp91_0)))
  (.seq (.reg [⟨some 43, .build [.int .i64 0, .nil, .int .i64 0] [], none⟩,
    ⟨none, .st 3 (.t 2) (.t 43), none⟩])
  (.ret)))⟩

set_option maxHeartbeats 4000000 in
theorem does91 (as : List AV) (hok : ok 64 as) : Does tb91 af91 conJudgeS as := by
  cases h : (conJudgeS).run as with
  | none => exact does_none h
  | some out =>
    have h' := h
    simp only [conJudgeS] at h'
    split at h'
    · rename_i l
      by_cases hp : l.length ≤ 400 ∧ recN l = 1
      case neg => simp [guardP, hp] at h'
      rw [guardP_pos hp] at h'
      obtain ⟨hp1, hp2⟩ := hp
      simp only [ok] at hok
      obtain ⟨⟨hlen, _⟩, _⟩ := hok
      rw [← recN_iff] at hp2
      simp only [Option.some.injEq] at h'
      subst h'
      have hmo : (most : Int) = 1099511627776 := rfl
      have hml : (maxLen : Int) = 9223372036854775807 := rfl
      with_reducible refine does_by h fun Q hQ => ?_
      clear h
      dsimp only [af91, conJudgeS, go_sem, Nat.reduceAdd, Nat.reduceMul, Nat.reduceSub, Nat.reduceBEq, Nat.reduceLeDiff, Nat.reduceEqDiff, ↓dreduceIte, toG, tb91_77, tb91_136, conBreaksS, conShownS]
      repeat' first
        | with_reducible refine kon_seq ?_
        | with_reducible refine kon_nil ?_
        | with_reducible refine kon_skip ?_
        | with_reducible refine kon_block ?_
        | with_reducible refine kon_ret ?_
        | with_reducible refine kon_exit ?_
        | with_reducible refine kon_past_ret ?_
        | with_reducible refine kon_past_exit ?_
        | with_reducible refine kon_blk_ret ?_
        | with_reducible refine kon_blk_end ?_
        | with_reducible refine kon_blk_exit ?_
        | (with_reducible refine kon_blk_past ?_ ?_
           · decide)
        | with_reducible refine loop_exit ?_
        | with_reducible refine loop_ret ?_
        | with_reducible refine mid_exit ?_
        | with_reducible refine mid_ret ?_
        | (with_reducible refine kon_bin fun R hR => ?_
           dsimp only [go_sem, Nat.reduceAdd, Nat.reduceMul, Nat.reduceSub, Nat.reduceBEq, Nat.reduceLeDiff, Nat.reduceEqDiff, ↓dreduceIte, toG, tb91_77, tb91_136, conBreaksS, conShownS]
           try simp (disch := first | omega | (simp only [List.length_set, List.length_append, List.length_cons, List.length_nil, List.length_replicate]; omega)) only [guardP_T, guardP_pos, iteN, rd_set, List.set_set, List.length_set, eta_fact, eta_rumor, eta_doubt, eta_item, eta_rec, eta_due, look, look0, rd_toNat, wrap64, Int.toNat_natCast, Nat.zero_add, List.take_length, List.drop_zero, and_self, setB_len, true_and, and_true]
           with_reducible refine hR _ ?_
           clear hR R)
        | (with_reducible refine kon_conv fun R hR => ?_
           dsimp only [go_sem, Nat.reduceAdd, Nat.reduceMul, Nat.reduceSub, Nat.reduceBEq, Nat.reduceLeDiff, Nat.reduceEqDiff, ↓dreduceIte, toG, tb91_77, tb91_136, conBreaksS, conShownS]
           try simp (disch := first | omega | (simp only [List.length_set, List.length_append, List.length_cons, List.length_nil, List.length_replicate]; omega)) only [guardP_T, guardP_pos, iteN, rd_set, List.set_set, List.length_set, eta_fact, eta_rumor, eta_doubt, eta_item, eta_rec, eta_due, look, look0, rd_toNat, wrap64, Int.toNat_natCast, Nat.zero_add, List.take_length, List.drop_zero, and_self, setB_len, true_and, and_true]
           with_reducible refine hR _ ?_
           clear hR R)
        | (with_reducible refine kon_ins fun R hR => ?_
           dsimp only [go_sem, Nat.reduceAdd, Nat.reduceMul, Nat.reduceSub, Nat.reduceBEq, Nat.reduceLeDiff, Nat.reduceEqDiff, ↓dreduceIte, toG, tb91_77, tb91_136, conBreaksS, conShownS]
           first
             | with_reducible refine hR _ ?_
             | (simp (disch := first | omega | (simp only [List.length_set, List.length_append, List.length_cons, List.length_nil, List.length_replicate]; omega)) only [guardP_T, guardP_pos, iteN, rd_set, List.set_set, List.length_set, eta_fact, eta_rumor, eta_doubt, eta_item, eta_rec, eta_due, look, look0, rd_toNat, wrap64, Int.toNat_natCast, Nat.zero_add, List.take_length, List.drop_zero, and_self, setB_len, true_and, and_true]
                try dsimp only [go_sem, Nat.reduceAdd, Nat.reduceMul, Nat.reduceSub, Nat.reduceBEq, Nat.reduceLeDiff, Nat.reduceEqDiff, ↓dreduceIte, toG, tb91_77, tb91_136, conBreaksS, conShownS]
                try simp (disch := first | omega | (simp only [List.length_set, List.length_append, List.length_cons, List.length_nil, List.length_replicate]; omega)) only [guardP_T, guardP_pos, iteN, rd_set, List.set_set, List.length_set, eta_fact, eta_rumor, eta_doubt, eta_item, eta_rec, eta_due, look, look0, rd_toNat, wrap64, Int.toNat_natCast, Nat.zero_add, List.take_length, List.drop_zero, and_self, setB_len, true_and, and_true]
                with_reducible refine hR _ ?_)
           clear hR R)
        | (with_reducible refine kon_g_run ?_ ?_
           · dsimp only [nth] <;> with_reducible rfl)
        | (with_reducible refine kon_g_skip ?_ ?_
           · dsimp only [nth, not_t', not_f'] <;> with_reducible rfl
           dsimp only [go_sem])
        | (with_reducible refine kon_g_undef ?_ ?_
           · dsimp only [nth] <;> with_reducible rfl
           dsimp only [go_sem])
        | (with_reducible refine kon_g fun R hR => ?_
           dsimp only [go_sem, Nat.reduceAdd, Nat.reduceMul, Nat.reduceSub, Nat.reduceBEq, Nat.reduceLeDiff, Nat.reduceEqDiff, ↓dreduceIte, toG, tb91_77, tb91_136, conBreaksS, conShownS]
           split <;> (rename_i hb; with_reducible refine hR _ ?_; clear hR R; try simp only [hb]; try simp only [decide_eq_true_eq, decide_eq_false_iff_not, beq_iff_eq, beq_eq_false_iff_ne, bne_iff_ne, bne_eq_false_iff_eq, Bool.not_eq_true, Bool.not_eq_false, Bool.not_eq_eq_eq_not, Bool.not_true, Bool.not_false, ne_eq, Int.not_lt, Int.not_le, eq_self, not_true_eq_false, not_false_eq_true, decide_true, decide_false, Bool.and_eq_true, Bool.or_eq_true, Bool.and_eq_false_iff, Bool.or_eq_false_iff, gt_iff_lt, ge_iff_le, Bool.false_eq_true, Bool.true_eq_false, reduceCtorEq, or_false, false_or, or_true, true_or, false_and, and_false] at hb; try (exfalso; omega)))
        | (with_reducible refine kon_cond fun R1 R2 h1 h2 => ?_
           dsimp only [go_sem]
           first
             | (with_reducible refine h1 ?_; clear h1 h2 R1 R2)
             | (with_reducible refine h2 ?_; clear h1 h2 R1 R2)
             | (split <;> rename_i hb <;> first
                 | (with_reducible refine h1 ?_; clear h1 h2 R1 R2; try simp only [hb]; try simp only [decide_eq_true_eq, decide_eq_false_iff_not, beq_iff_eq, beq_eq_false_iff_ne, bne_iff_ne, bne_eq_false_iff_eq, Bool.not_eq_true, Bool.not_eq_false, Bool.not_eq_eq_eq_not, Bool.not_true, Bool.not_false, ne_eq, Int.not_lt, Int.not_le, eq_self, not_true_eq_false, not_false_eq_true, decide_true, decide_false, Bool.and_eq_true, Bool.or_eq_true, Bool.and_eq_false_iff, Bool.or_eq_false_iff, gt_iff_lt, ge_iff_le, Bool.false_eq_true, Bool.true_eq_false, reduceCtorEq, or_false, false_or, or_true, true_or, false_and, and_false] at hb; try (exfalso; omega))
                 | (with_reducible refine h2 ?_; clear h1 h2 R1 R2; try simp only [hb]; try simp only [decide_eq_true_eq, decide_eq_false_iff_not, beq_iff_eq, beq_eq_false_iff_ne, bne_iff_ne, bne_eq_false_iff_eq, Bool.not_eq_true, Bool.not_eq_false, Bool.not_eq_eq_eq_not, Bool.not_true, Bool.not_false, ne_eq, Int.not_lt, Int.not_le, eq_self, not_true_eq_false, not_false_eq_true, decide_true, decide_false, Bool.and_eq_true, Bool.or_eq_true, Bool.and_eq_false_iff, Bool.or_eq_false_iff, gt_iff_lt, ge_iff_le, Bool.false_eq_true, Bool.true_eq_false, reduceCtorEq, or_false, false_or, or_true, true_or, false_and, and_false] at hb; try (exfalso; omega))))
        | (with_reducible refine kon_rounds (a := lp91_0) [0, 2, 3] (fun n9 s9 => ∃ (i : Int), ((0 ≤ i) ∧ (i ≤ l.length) ∧ (judFrom l l.length 0 = judFrom l (l.length - i).toNat i) ∧ (l.length ≤ 400)) ∧ n9 = (l.length - i).toNat ∧ s9.m = [.cells [.int .i64 0, .nil, .int .i64 0]] ∧ s9.t = [.sl .rcd l, nth s9.t 1, .ptr 0 0, .int .i64 i, nth s9.t 4, nth s9.t 5, nth s9.t 6, nth s9.t 7, nth s9.t 8, nth s9.t 9, nth s9.t 10, nth s9.t 11, nth s9.t 12, nth s9.t 13, nth s9.t 14, nth s9.t 15, nth s9.t 16, nth s9.t 17, nth s9.t 18, nth s9.t 19, nth s9.t 20, nth s9.t 21, nth s9.t 22, nth s9.t 23, nth s9.t 24, nth s9.t 25, nth s9.t 26, nth s9.t 27, nth s9.t 28, nth s9.t 29, nth s9.t 30, nth s9.t 31, nth s9.t 32, nth s9.t 33, nth s9.t 34, nth s9.t 35, nth s9.t 36, nth s9.t 37, nth s9.t 38, nth s9.t 39, nth s9.t 40, nth s9.t 41, nth s9.t 42, nth s9.t 43]) ?_ ?_
           all_goals first
             | (rintro n9 ⟨t9, m9⟩ ⟨i, ⟨hI0, hI1, hI2, hI3⟩, rfl, hm9, ht9⟩
                dsimp only at hm9 ht9
                subst hm9
                rw [ht9]
                clear ht9
                dsimp only [lp91_0])
             | (dsimp only [go_sem, Nat.reduceAdd, Nat.reduceMul, Nat.reduceSub, Nat.reduceBEq, Nat.reduceLeDiff, Nat.reduceEqDiff, ↓dreduceIte, toG, tb91_77, tb91_136, conBreaksS, conShownS]
                refine ⟨_, _, ⟨?_, ?_, ?_, ?_⟩, rfl, rfl, rfl⟩))
        | (with_reducible refine loop_again (keep := [0, 2, 3]) ?_
           dsimp only [go_sem, Nat.reduceAdd, Nat.reduceMul, Nat.reduceSub, Nat.reduceBEq, Nat.reduceLeDiff, Nat.reduceEqDiff, ↓dreduceIte, toG, tb91_77, tb91_136, conBreaksS, conShownS]
           refine ⟨_, ?_, _, ⟨?_, ?_, ?_, ?_⟩, rfl, rfl, rfl⟩)
        | (with_reducible refine kon_rounds (a := lp91_1) [0, 2, 3, 4] (fun n9 s9 => ∃ (c : Int), ((1 ≤ c) ∧ (c ≤ 10) ∧ (brFrom l i 9 1 = brFrom l i (10 - c).toNat c) ∧ (judFrom l l.length 0 = judFrom l (l.length - i).toNat i) ∧ (l.length ≤ 400) ∧ (0 ≤ i ∧ i < l.length)) ∧ n9 = (10 - c).toNat ∧ s9.m = [.cells [.int .i64 0, .nil, .int .i64 0]] ∧ s9.t = [.sl .rcd l, nth s9.t 1, .ptr 0 0, .int .i64 i, .int .i64 c, nth s9.t 5, nth s9.t 6, nth s9.t 7, nth s9.t 8, nth s9.t 9, nth s9.t 10, nth s9.t 11, nth s9.t 12, nth s9.t 13, nth s9.t 14, nth s9.t 15, nth s9.t 16, nth s9.t 17, nth s9.t 18, nth s9.t 19, nth s9.t 20, nth s9.t 21, nth s9.t 22, nth s9.t 23, nth s9.t 24, nth s9.t 25, nth s9.t 26, nth s9.t 27, nth s9.t 28, nth s9.t 29, nth s9.t 30, nth s9.t 31, nth s9.t 32, nth s9.t 33, nth s9.t 34, nth s9.t 35, nth s9.t 36, nth s9.t 37, nth s9.t 38, nth s9.t 39, nth s9.t 40, nth s9.t 41, nth s9.t 42, nth s9.t 43]) ?_ ?_
           all_goals first
             | (rintro n9 ⟨t9, m9⟩ ⟨c, ⟨hI0, hI1, hI2, hI3, hI4, hI5⟩, rfl, hm9, ht9⟩
                dsimp only at hm9 ht9
                subst hm9
                rw [ht9]
                clear ht9
                dsimp only [lp91_1])
             | (dsimp only [go_sem, Nat.reduceAdd, Nat.reduceMul, Nat.reduceSub, Nat.reduceBEq, Nat.reduceLeDiff, Nat.reduceEqDiff, ↓dreduceIte, toG, tb91_77, tb91_136, conBreaksS, conShownS]
                refine ⟨_, _, ⟨?_, ?_, ?_, ?_, ?_, ?_⟩, rfl, rfl, rfl⟩))
        | (with_reducible refine loop_again (keep := [0, 2, 3, 4]) ?_
           dsimp only [go_sem, Nat.reduceAdd, Nat.reduceMul, Nat.reduceSub, Nat.reduceBEq, Nat.reduceLeDiff, Nat.reduceEqDiff, ↓dreduceIte, toG, tb91_77, tb91_136, conBreaksS, conShownS]
           refine ⟨_, ?_, _, ⟨?_, ?_, ?_, ?_, ?_, ?_⟩, rfl, rfl, rfl⟩)
      all_goals first
        | (dsimp only [kon]
           with_reducible refine hQ _ _ _ ?_
           dsimp only [kon, endQ, af91, conJudgeS, go_sem, Nat.reduceAdd, Nat.reduceMul, Nat.reduceSub, Nat.reduceBEq, Nat.reduceLeDiff, Nat.reduceEqDiff, ↓dreduceIte, toG, tb91_77, tb91_136, conBreaksS, conShownS]
           try simp (disch := first | omega | (simp only [List.length_set, List.length_append, List.length_cons, List.length_nil, List.length_replicate]; omega)) only [guardP_T, guardP_pos, iteN, rd_set, List.set_set, List.length_set, eta_fact, eta_rumor, eta_doubt, eta_item, eta_rec, eta_due, look, look0, rd_toNat, wrap64, Int.toNat_natCast, Nat.zero_add, List.take_length, List.drop_zero, and_self, setB_len, true_and, and_true]
           try dsimp only [go_sem, Nat.reduceAdd, Nat.reduceMul, Nat.reduceSub, Nat.reduceBEq, Nat.reduceLeDiff, Nat.reduceEqDiff, ↓dreduceIte, toG, tb91_77, tb91_136, conBreaksS, conShownS])
        | skip
      all_goals try first
        | omega
        | (simp; done)
        | (simp; omega)
      all_goals first
        | omega
        | (rw [hI2, brFrom_no (by omega) (by rw [breaks_same hp2 hI5.1 hI5.2]; assumption)]; done)
        | (have hbk : breaksI l i c = true := by rw [breaks_same hp2 hI5.1 hI5.2]; assumption
           have hsh := shown_same hp2 hI5.1 hI5.2 hbk
           rw [jud_found hI0 (by omega) hI5.2 hbk hI2 hI3, linesI, if_pos (by omega), hsh]
           done)
        | (have hbk : breaksI l i c = true := by rw [breaks_same hp2 hI5.1 hI5.2]; assumption
           have hsh := shown_same hp2 hI5.1 hI5.2 hbk
           rw [jud_found hI0 (by omega) hI5.2 hbk hI2 hI3, linesI, if_neg (by omega)]
           done)
        | (rw [hI3, judFrom_no hI5.2 (br_end (by omega) hI2)]; done)
        | (rw [jud_end (by omega) hI2]; done)
    · simp at h'

def tb49 : Tab := fun f => match f with
  | 54 => some conRecsOk
  | 91 => some conJudgeS
  | _ => none

theorem tb49_54 : tb49 54 = some conRecsOk := rfl
theorem tb49_91 : tb49 91 = some conJudgeS := rfl

-- loop.example/g00678/spec.Judge hows []
def af49 : AF := ⟨13, [.cell 2 true 3],
  .seq (.reg [⟨some 2, .box (.c (.agg [.int .i64 0, .nil, .int .i64 0])), none⟩])
  (.seq (.seq (.reg [⟨some 3, .mv (.t 0), none⟩,
    ⟨some 4, .len (.t 3), none⟩,
    ⟨some 5, .bin .gtr (.t 4) (.i 400), none⟩])
  (.cond (.t 5)
    (.seq (.reg [⟨some 6, .build [.int .i64 0, .nil, .int .i64 0] [(2, 1, (.i 2))], none⟩,
      ⟨none, .st 3 (.t 2) (.t 6), none⟩])
    (.ret))
    (.skip)))
  (.seq (.seq (.reg [⟨some 7, .mv (.t 0), none⟩,
    ⟨some 8, .call 54 [(.t 7)], none⟩,
    ⟨some 9, .un .not (.t 8), none⟩])
  (.cond (.t 9)
    (.seq (.reg [⟨some 10, .build [.int .i64 0, .nil, .int .i64 0] [(2, 1, (.i 1))], none⟩,
      ⟨none, .st 3 (.t 2) (.t 10), none⟩])
    (.ret))
    (.skip)))
  (.seq (.reg [⟨some 11, .mv (.t 0), none⟩,
    ⟨some 12, .call 91 [(.t 11)], none⟩,
    ⟨none, .st 3 (.t 2) (.t 12), none⟩])
  (.ret))))⟩

set_option maxHeartbeats 4000000 in
theorem does49 (as : List AV) (hok : ok 64 as) : Does tb49 af49 conJudge as := by
  cases h : (conJudge).run as with
  | none => exact does_none h
  | some out =>
    have h' := h
    simp only [conJudge] at h'
    split at h'
    · rename_i l
      simp only [ok] at hok
      obtain ⟨⟨hlen, _⟩, _⟩ := hok
      simp only [Option.some.injEq] at h'
      subst h'
      have hmo : (most : Int) = 1099511627776 := rfl
      have hml : (maxLen : Int) = 9223372036854775807 := rfl
      with_reducible refine does_by h fun Q hQ => ?_
      clear h
      dsimp only [af49, conJudge, go_sem, Nat.reduceAdd, Nat.reduceMul, Nat.reduceSub, Nat.reduceBEq, Nat.reduceLeDiff, Nat.reduceEqDiff, ↓dreduceIte, toG, tb49_54, tb49_91, conJudgeS, conRecsOk]
      repeat' first
        | with_reducible refine kon_seq ?_
        | with_reducible refine kon_nil ?_
        | with_reducible refine kon_skip ?_
        | with_reducible refine kon_block ?_
        | with_reducible refine kon_ret ?_
        | with_reducible refine kon_exit ?_
        | with_reducible refine kon_past_ret ?_
        | with_reducible refine kon_past_exit ?_
        | with_reducible refine kon_blk_ret ?_
        | with_reducible refine kon_blk_end ?_
        | with_reducible refine kon_blk_exit ?_
        | (with_reducible refine kon_blk_past ?_ ?_
           · decide)
        | with_reducible refine loop_exit ?_
        | with_reducible refine loop_ret ?_
        | with_reducible refine mid_exit ?_
        | with_reducible refine mid_ret ?_
        | (with_reducible refine kon_bin fun R hR => ?_
           dsimp only [go_sem, Nat.reduceAdd, Nat.reduceMul, Nat.reduceSub, Nat.reduceBEq, Nat.reduceLeDiff, Nat.reduceEqDiff, ↓dreduceIte, toG, tb49_54, tb49_91, conJudgeS, conRecsOk]
           try simp (disch := first | omega | (simp only [List.length_set, List.length_append, List.length_cons, List.length_nil, List.length_replicate]; omega)) only [guardP_T, guardP_pos, iteN, rd_set, List.set_set, List.length_set, eta_fact, eta_rumor, eta_doubt, eta_item, eta_rec, eta_due, look, look0, rd_toNat, wrap64, Int.toNat_natCast, Nat.zero_add, List.take_length, List.drop_zero, and_self, setB_len, true_and, and_true, recN_iff]
           with_reducible refine hR _ ?_
           clear hR R)
        | (with_reducible refine kon_conv fun R hR => ?_
           dsimp only [go_sem, Nat.reduceAdd, Nat.reduceMul, Nat.reduceSub, Nat.reduceBEq, Nat.reduceLeDiff, Nat.reduceEqDiff, ↓dreduceIte, toG, tb49_54, tb49_91, conJudgeS, conRecsOk]
           try simp (disch := first | omega | (simp only [List.length_set, List.length_append, List.length_cons, List.length_nil, List.length_replicate]; omega)) only [guardP_T, guardP_pos, iteN, rd_set, List.set_set, List.length_set, eta_fact, eta_rumor, eta_doubt, eta_item, eta_rec, eta_due, look, look0, rd_toNat, wrap64, Int.toNat_natCast, Nat.zero_add, List.take_length, List.drop_zero, and_self, setB_len, true_and, and_true, recN_iff]
           with_reducible refine hR _ ?_
           clear hR R)
        | (with_reducible refine kon_ins fun R hR => ?_
           dsimp only [go_sem, Nat.reduceAdd, Nat.reduceMul, Nat.reduceSub, Nat.reduceBEq, Nat.reduceLeDiff, Nat.reduceEqDiff, ↓dreduceIte, toG, tb49_54, tb49_91, conJudgeS, conRecsOk]
           first
             | with_reducible refine hR _ ?_
             | (simp (disch := first | omega | (simp only [List.length_set, List.length_append, List.length_cons, List.length_nil, List.length_replicate]; omega)) only [guardP_T, guardP_pos, iteN, rd_set, List.set_set, List.length_set, eta_fact, eta_rumor, eta_doubt, eta_item, eta_rec, eta_due, look, look0, rd_toNat, wrap64, Int.toNat_natCast, Nat.zero_add, List.take_length, List.drop_zero, and_self, setB_len, true_and, and_true, recN_iff]
                try dsimp only [go_sem, Nat.reduceAdd, Nat.reduceMul, Nat.reduceSub, Nat.reduceBEq, Nat.reduceLeDiff, Nat.reduceEqDiff, ↓dreduceIte, toG, tb49_54, tb49_91, conJudgeS, conRecsOk]
                try simp (disch := first | omega | (simp only [List.length_set, List.length_append, List.length_cons, List.length_nil, List.length_replicate]; omega)) only [guardP_T, guardP_pos, iteN, rd_set, List.set_set, List.length_set, eta_fact, eta_rumor, eta_doubt, eta_item, eta_rec, eta_due, look, look0, rd_toNat, wrap64, Int.toNat_natCast, Nat.zero_add, List.take_length, List.drop_zero, and_self, setB_len, true_and, and_true, recN_iff]
                with_reducible refine hR _ ?_)
           clear hR R)
        | (with_reducible refine kon_g_run ?_ ?_
           · dsimp only [nth] <;> with_reducible rfl)
        | (with_reducible refine kon_g_skip ?_ ?_
           · dsimp only [nth, not_t', not_f'] <;> with_reducible rfl
           dsimp only [go_sem])
        | (with_reducible refine kon_g_undef ?_ ?_
           · dsimp only [nth] <;> with_reducible rfl
           dsimp only [go_sem])
        | (with_reducible refine kon_g fun R hR => ?_
           dsimp only [go_sem, Nat.reduceAdd, Nat.reduceMul, Nat.reduceSub, Nat.reduceBEq, Nat.reduceLeDiff, Nat.reduceEqDiff, ↓dreduceIte, toG, tb49_54, tb49_91, conJudgeS, conRecsOk]
           split <;> (rename_i hb; with_reducible refine hR _ ?_; clear hR R; try simp only [hb]; try simp only [decide_eq_true_eq, decide_eq_false_iff_not, beq_iff_eq, beq_eq_false_iff_ne, bne_iff_ne, bne_eq_false_iff_eq, Bool.not_eq_true, Bool.not_eq_false, Bool.not_eq_eq_eq_not, Bool.not_true, Bool.not_false, ne_eq, Int.not_lt, Int.not_le, eq_self, not_true_eq_false, not_false_eq_true, decide_true, decide_false, Bool.and_eq_true, Bool.or_eq_true, Bool.and_eq_false_iff, Bool.or_eq_false_iff, gt_iff_lt, ge_iff_le, Bool.false_eq_true, Bool.true_eq_false, reduceCtorEq, or_false, false_or, or_true, true_or, false_and, and_false, recN_iff] at hb; try (exfalso; omega)))
        | (with_reducible refine kon_cond fun R1 R2 h1 h2 => ?_
           dsimp only [go_sem]
           first
             | (with_reducible refine h1 ?_; clear h1 h2 R1 R2)
             | (with_reducible refine h2 ?_; clear h1 h2 R1 R2)
             | (split <;> rename_i hb <;> first
                 | (with_reducible refine h1 ?_; clear h1 h2 R1 R2; try simp only [hb]; try simp only [decide_eq_true_eq, decide_eq_false_iff_not, beq_iff_eq, beq_eq_false_iff_ne, bne_iff_ne, bne_eq_false_iff_eq, Bool.not_eq_true, Bool.not_eq_false, Bool.not_eq_eq_eq_not, Bool.not_true, Bool.not_false, ne_eq, Int.not_lt, Int.not_le, eq_self, not_true_eq_false, not_false_eq_true, decide_true, decide_false, Bool.and_eq_true, Bool.or_eq_true, Bool.and_eq_false_iff, Bool.or_eq_false_iff, gt_iff_lt, ge_iff_le, Bool.false_eq_true, Bool.true_eq_false, reduceCtorEq, or_false, false_or, or_true, true_or, false_and, and_false, recN_iff] at hb; try (exfalso; omega))
                 | (with_reducible refine h2 ?_; clear h1 h2 R1 R2; try simp only [hb]; try simp only [decide_eq_true_eq, decide_eq_false_iff_not, beq_iff_eq, beq_eq_false_iff_ne, bne_iff_ne, bne_eq_false_iff_eq, Bool.not_eq_true, Bool.not_eq_false, Bool.not_eq_eq_eq_not, Bool.not_true, Bool.not_false, ne_eq, Int.not_lt, Int.not_le, eq_self, not_true_eq_false, not_false_eq_true, decide_true, decide_false, Bool.and_eq_true, Bool.or_eq_true, Bool.and_eq_false_iff, Bool.or_eq_false_iff, gt_iff_lt, ge_iff_le, Bool.false_eq_true, Bool.true_eq_false, reduceCtorEq, or_false, false_or, or_true, true_or, false_and, and_false, recN_iff] at hb; try (exfalso; omega))))
      all_goals first
        | (dsimp only [kon]
           with_reducible refine hQ _ _ _ ?_
           dsimp only [kon, endQ, af49, conJudge, go_sem, Nat.reduceAdd, Nat.reduceMul, Nat.reduceSub, Nat.reduceBEq, Nat.reduceLeDiff, Nat.reduceEqDiff, ↓dreduceIte, toG, tb49_54, tb49_91, conJudgeS, conRecsOk]
           try simp (disch := first | omega | (simp only [List.length_set, List.length_append, List.length_cons, List.length_nil, List.length_replicate]; omega)) only [guardP_T, guardP_pos, iteN, rd_set, List.set_set, List.length_set, eta_fact, eta_rumor, eta_doubt, eta_item, eta_rec, eta_due, look, look0, rd_toNat, wrap64, Int.toNat_natCast, Nat.zero_add, List.take_length, List.drop_zero, and_self, setB_len, true_and, and_true]
           try dsimp only [go_sem, Nat.reduceAdd, Nat.reduceMul, Nat.reduceSub, Nat.reduceBEq, Nat.reduceLeDiff, Nat.reduceEqDiff, ↓dreduceIte, toG, tb49_54, tb49_91, conJudgeS, conRecsOk])
        | skip
      all_goals try first
        | omega
        | (simp; done)
        | (simp; omega)
      all_goals first
        | (have hr : recsOk l = false := by assumption
           rw [judR, if_neg (by omega), if_neg (by rw [hr]; decide)]
           done)
        | (have hr : 400 < l.length := by omega
           rw [judR, if_pos hr]
           done)
        | (have hr : recsOk l = true := by rw [recN_iff]; assumption
           rw [judR, if_neg (by omega), if_pos hr]
           done)
    · simp at h'

end Go.Proofs.Ytpinkajnaeacdaa
