/- Shows. -/
import Derived.Test.YtnghlmogcbmlfaaShoB
namespace Go.Proofs.Ytnghlmogcbmlfaa
set_option linter.unusedVariables false
set_option linter.unusedSimpArgs false
set_option linter.unnecessarySimpa false

def lastK (ls : List Int) : Int := @rd Int _ ls (ls.length - 1)

def showsB (l : List Rec) (c : Int) (ls : List Int) : Bool :=
  recsOk l && (inr c 1 9 && (inr ls.length 1 2 && (ls.all (fun k => inr k 0 (l.length - 1)) && (breaksI l (lastK ls) c && (
    if ls.length = 2 then decide (@rd Int _ ls 0 < @rd Int _ ls 1) && speaksI l c (@rd Int _ ls 0) (lastK ls)
    else if c = 2 then decide (shownI l (lastK ls) 2 < 0)
    else c == 5 || decide (7 ≤ c))))))

def conShows : Con := ⟨[.imm .rcd, .v, .imm .int], .v, fun as => match as with
  | [.sl .rcd l, .int .i64 c, .sl .int ls] => some (.bool (showsB l c ls), [])
  | _ => none⟩

def recM (l : List Rec) : Int := if recsOk l = true then 1 else 0
theorem recM_iff (l : List Rec) : (recsOk l = true) = (recM l = 1 ∧ l.length ≤ 400) := by
  unfold recM
  rw [eq_iff_iff]
  constructor
  · intro h
    rw [if_pos h]
    simp only [recsOk, Bool.and_eq_true, decide_eq_true_eq] at h
    exact ⟨rfl, h.1⟩
  · rintro ⟨h, _⟩
    split at h
    · assumption
    · cases h
theorem recM_no (l : List Rec) : (recsOk l = false) = (recM l = 0) := by
  unfold recM
  cases recsOk l <;> simp
theorem brk_no (l : List Rec) (i c : Int) : (breaksI l i c = false) = (brkN l i c = 0) := by
  unfold brkN
  cases breaksI l i c <;> simp

theorem inr_iff (a lo hi : Int) : (inr a lo hi = true) = (lo ≤ a ∧ a ≤ hi) := by simp [inr]
theorem inr_no (a lo hi : Int) : (inr a lo hi = false) = (a < lo ∨ hi < a) := by
  simp [inr]
  omega

theorem all_inr_step {ls : List Int} {n i : Int} (h0 : 0 ≤ i) (h1 : i < ls.length) (h : (ls.take i.toNat).all (fun k => inr k 0 n) = true) (hr : inr (rd ls i) 0 n = true) : (ls.take (i + 1).toNat).all (fun k => inr k 0 n) = true := by
  rw [take_rd h0 h1, List.all_append, h]
  simp [hr]

theorem all_inr_no {ls : List Int} {n i : Int} (h0 : 0 ≤ i) (h1 : i < ls.length) (hr : inr (rd ls i) 0 n = false) : ls.all (fun k => inr k 0 n) = false := by
  rw [List.all_eq_false]
  exact ⟨rd ls i, rd_mem h0 h1, by simp [hr]⟩

theorem shown_life {l : List Rec} {i : Int} (h : recsOk l = true) (h0 : 0 ≤ i) (h1 : i < l.length) (hb : breaksI l i 2 = true) : shownI l i 2 = lastI (lifeP (rd l i).node) l i.toNat := by
  rw [shown_same h h0 h1 hb]
  rfl

theorem lastK_2 {ls : List Int} (h : ls.length = 2) : lastK ls = @rd Int _ ls 1 := by
  unfold lastK
  rw [h]
  rfl

theorem lastK_1 {ls : List Int} (h : ls.length = 1) : lastK ls = @rd Int _ ls 0 := by
  unfold lastK
  rw [h]
  rfl

section
variable {l : List Rec} {c : Int} {ls : List Int}
theorem showsB_rec (h : recM l = 0) : showsB l c ls = false := by
  rw [← recM_no] at h
  simp [showsB, h]
theorem showsB_c (h : c < 1 ∨ 9 < c) : showsB l c ls = false := by
  rw [← inr_no] at h
  simp [showsB, h]
theorem showsB_len (h : (ls.length : Int) < 1 ∨ 2 < (ls.length : Int)) : showsB l c ls = false := by
  rw [← inr_no] at h
  simp [showsB, h]
theorem showsB_rng (h : ls.all (fun k => inr k 0 (l.length - 1)) = false) : showsB l c ls = false := by
  simp only [showsB, h, Bool.false_and, Bool.and_false]
theorem showsB_brk (h : brkN l (lastK ls) c = 0) : showsB l c ls = false := by
  rw [← brk_no] at h
  simp only [showsB, h, Bool.false_and, Bool.and_false]
theorem showsB_go (h1 : recM l = 1) (h0 : l.length ≤ 400) (h2 : 1 ≤ c ∧ c ≤ 9) (h3 : 1 ≤ ls.length) (h4 : ls.length ≤ 2) (h5 : ls.all (fun k => inr k 0 (l.length - 1)) = true) (h6 : brkN l (lastK ls) c = 1) : showsB l c ls = if ls.length = 2 then decide (@rd Int _ ls 0 < @rd Int _ ls 1) && speaksI l c (@rd Int _ ls 0) (lastK ls)
    else if c = 2 then decide (shownI l (lastK ls) 2 < 0)
    else c == 5 || decide (7 ≤ c) := by
  have g1 : recsOk l = true := by rw [recM_iff]; exact ⟨h1, h0⟩
  rw [← brk_iff] at h6
  rw [← inr_iff] at h2
  have g3 : inr ls.length 1 2 = true := by rw [inr_iff]; omega
  simp only [showsB, g1, h2, g3, h5, h6, Bool.true_and]
theorem showsB_asc (h : ls.length ≤ 2) (h2 : 2 ≤ ls.length) (h1 : @rd Int _ ls 1 ≤ @rd Int _ ls 0) : showsB l c ls = false := by
  have e : ls.length = 2 := by omega
  simp only [showsB, if_pos e, decide_eq_false (show ¬(@rd Int _ ls 0 < @rd Int _ ls 1) by omega), Bool.false_and, Bool.and_false]
end

theorem lastK_def (ls : List Int) : @rd Int _ ls (ls.length - 1) = lastK ls := rfl

def tb55 : Tab := fun f => match f with
  | 67 => some conRecsOk
  | 129 => some conClause
  | 130 => some conIn
  | 131 => some conBreaksI
  | 132 => some conSpeaks
  | 133 => some conShownI
  | _ => none

theorem tb55_67 : tb55 67 = some conRecsOk := rfl
theorem tb55_129 : tb55 129 = some conClause := rfl
theorem tb55_130 : tb55 130 = some conIn := rfl
theorem tb55_131 : tb55 131 = some conBreaksI := rfl
theorem tb55_132 : tb55 132 = some conSpeaks := rfl
theorem tb55_133 : tb55 133 = some conShownI := rfl

-- loop.example/g00678/impl.Shows hows [(13, [.any, .any, .any, .any, .any, .any, .any, .any, .any, .any, .any, .any, .any, .any, .pure, .any, .any], [])]
def lp55_0 : AC := .seq (.reg [⟨some 27, .bin .lss (.t 26) (.t 25), none⟩])
      (.seq (.cond (.t 27)
        (.skip)
        (.exit 0))
      (.seq (.block 1 (.seq (.reg [⟨some 28, .ia .int (.t 24) (.t 26), none⟩,
          ⟨some 29, .ld false 1 (.t 28), none⟩,
          ⟨some 8, .mv (.t 29), none⟩])
        (.seq (.reg [⟨some 30, .mv (.t 8), none⟩,
          ⟨some 31, .mv (.t 0), none⟩,
          ⟨some 32, .len (.t 31), none⟩,
          ⟨some 33, .bin .sub (.t 32) (.i 1), none⟩,
          ⟨some 34, .call 130 [(.t 30), (.i 0), (.t 33)], none⟩,
          ⟨some 35, .un .not (.t 34), none⟩])
        (.cond (.t 35)
          (.seq (.reg [⟨some 6, .mv (.b false), none⟩])
          (.ret))
          (.skip)))))
      (.reg [⟨some 36, .bin .add (.t 26) (.i 1), none⟩,
        ⟨some 26, .mv (.t 36), none⟩])))
def af55 : AF := ⟨82, [.t 6],
  .seq (.reg [⟨some 6, .mv (.b false), none⟩])
  (.seq (.seq (.reg [⟨some 10, .mv (.t 0), none⟩,
    ⟨some 11, .call 67 [(.t 10)], none⟩,
    ⟨some 12, .un .not (.t 11), none⟩,
    ⟨some 13, .mv (.t 12), none⟩,
    ⟨some 14, .mv (.t 1), some (13, false)⟩,
    ⟨some 15, .call 129 [(.t 14)], some (13, false)⟩,
    ⟨some 16, .un .not (.t 15), some (13, false)⟩,
    ⟨some 17, .pick (.t 13) (.b true) (.t 16), none⟩,
    ⟨some 18, .mv (.t 17), none⟩,
    ⟨some 19, .mv (.t 2), some (18, false)⟩,
    ⟨some 20, .len (.t 19), some (18, false)⟩,
    ⟨some 21, .call 130 [(.t 20), (.i 1), (.i 2)], some (18, false)⟩,
    ⟨some 22, .un .not (.t 21), some (18, false)⟩,
    ⟨some 23, .pick (.t 18) (.b true) (.t 22), none⟩])
  (.cond (.t 23)
    (.seq (.reg [⟨some 6, .mv (.b false), none⟩])
    (.ret))
    (.skip)))
  (.seq (.seq (.reg [⟨some 24, .mv (.t 2), none⟩,
    ⟨some 25, .len (.t 24), none⟩,
    ⟨some 26, .mv (.i 0), none⟩])
  (.block 0 (.loop lp55_0)))
  (.seq (.reg [⟨some 37, .mv (.t 2), none⟩,
    ⟨some 38, .mv (.t 2), none⟩,
    ⟨some 39, .len (.t 38), none⟩,
    ⟨some 40, .bin .sub (.t 39) (.i 1), none⟩,
    ⟨some 41, .ia .int (.t 37) (.t 40), none⟩,
    ⟨some 42, .ld false 1 (.t 41), none⟩,
    ⟨some 9, .mv (.t 42), none⟩])
  (.seq (.block 2 (.seq (.reg [⟨some 44, .mv (.t 0), none⟩,
      ⟨some 45, .mv (.t 9), none⟩,
      ⟨some 46, .mv (.t 1), none⟩,
      ⟨some 47, .call 131 [(.t 44), (.t 45), (.t 46)], none⟩,
      ⟨some 48, .un .not (.t 47), none⟩,
      ⟨some 43, .mv (.t 48), none⟩])
    (.cond (.t 43)
      (.seq (.reg [⟨some 6, .mv (.b false), none⟩])
      (.ret))
      (.seq (.reg [⟨some 50, .mv (.t 2), none⟩,
        ⟨some 51, .len (.t 50), none⟩,
        ⟨some 52, .bin .eql (.t 51) (.i 2), none⟩,
        ⟨some 49, .mv (.t 52), none⟩])
      (.cond (.t 49)
        (.seq (.reg [⟨some 53, .mv (.t 2), none⟩,
          ⟨some 54, .ia .int (.t 53) (.i 0), none⟩,
          ⟨some 55, .ld false 1 (.t 54), none⟩,
          ⟨some 56, .mv (.t 2), none⟩,
          ⟨some 57, .ia .int (.t 56) (.i 1), none⟩,
          ⟨some 58, .ld false 1 (.t 57), none⟩,
          ⟨some 59, .bin .lss (.t 55) (.t 58), none⟩,
          ⟨some 60, .mv (.t 59), none⟩,
          ⟨some 61, .mv (.t 0), some (60, true)⟩,
          ⟨some 62, .mv (.t 1), some (60, true)⟩,
          ⟨some 63, .mv (.t 2), some (60, true)⟩,
          ⟨some 64, .ia .int (.t 63) (.i 0), some (60, true)⟩,
          ⟨some 65, .ld false 1 (.t 64), some (60, true)⟩,
          ⟨some 66, .mv (.t 9), some (60, true)⟩,
          ⟨some 67, .callp 132 [(.t 61), (.t 62), (.t 65), (.t 66)], some (60, true)⟩,
          ⟨some 68, .pick (.t 60) (.t 67) (.b false), none⟩,
          ⟨some 6, .mv (.t 68), none⟩])
        (.ret))
        (.seq (.reg [⟨some 70, .mv (.t 1), none⟩,
          ⟨some 71, .bin .eql (.t 70) (.i 2), none⟩,
          ⟨some 69, .mv (.t 71), none⟩])
        (.cond (.t 69)
          (.seq (.reg [⟨some 72, .mv (.t 0), none⟩,
            ⟨some 73, .mv (.t 9), none⟩,
            ⟨some 74, .call 133 [(.t 72), (.t 73), (.i 2)], none⟩,
            ⟨some 75, .bin .lss (.t 74) (.i 0), none⟩,
            ⟨some 6, .mv (.t 75), none⟩])
          (.ret))
          (.skip))))))))
  (.seq (.reg [⟨some 76, .mv (.t 1), none⟩,
    ⟨some 77, .bin .eql (.t 76) (.i 5), none⟩,
    ⟨some 78, .mv (.t 77), none⟩,
    ⟨some 79, .mv (.t 1), some (78, false)⟩,
    ⟨some 80, .bin .geq (.t 79) (.i 7), some (78, false)⟩,
    ⟨some 81, .pick (.t 78) (.b true) (.t 80), none⟩,
    ⟨some 6, .mv (.t 81), none⟩])
  (.ret))))))⟩

set_option maxHeartbeats 4000000 in
theorem does55 (as : List AV) (hok : ok 64 as) : Does tb55 af55 conShows as := by
  cases h : (conShows).run as with
  | none => exact does_none h
  | some out =>
    have h' := h
    simp only [conShows] at h'
    split at h'
    · rename_i l c ls
      simp only [ok] at hok
      obtain ⟨⟨hlen, _⟩, _, ⟨hlen2, _⟩, _⟩ := hok
      have hk2 := lastK_2 (ls := ls)
      have hk1 := lastK_1 (ls := ls)
      have hc2 : c = 2 → brkN l (lastK ls) c = brkN l (lastK ls) 2 := fun h => by rw [h]
      simp only [Option.some.injEq] at h'
      subst h'
      have hmo : (most : Int) = 1099511627776 := rfl
      have hml : (maxLen : Int) = 9223372036854775807 := rfl
      with_reducible refine does_by h fun Q hQ => ?_
      clear h
      dsimp only [af55, conShows, go_sem, Nat.reduceAdd, Nat.reduceMul, Nat.reduceSub, Nat.reduceBEq, Nat.reduceLeDiff, Nat.reduceEqDiff, ↓dreduceIte, toG, tb55_67, tb55_129, tb55_130, tb55_131, tb55_132, tb55_133, conBreaksI, conClause, conIn, conRecsOk, conShownI, conSpeaks]
      repeat' first
        | with_reducible refine kon_seq ?_
        | with_reducible refine kon_nil ?_
        | with_reducible refine kon_any ?_ ?_
        | with_reducible exact kon_any_nil
        | with_reducible refine kon_skip ?_
        | with_reducible refine kon_block ?_
        | with_reducible refine kon_ret ?_
        | with_reducible refine kon_exit ?_
        | with_reducible refine kon_past_ret ?_
        | with_reducible refine kon_past_exit ?_
        | with_reducible refine kon_blk_ret ?_
        | with_reducible refine kon_blk_end ?_
        | with_reducible refine kon_blk_exit ?_
        | (with_reducible refine kon_blk_past ?_ ?_
           · decide)
        | with_reducible refine loop_exit ?_
        | with_reducible refine loop_ret ?_
        | with_reducible refine mid_exit ?_
        | with_reducible refine mid_ret ?_
        | ((first | with_reducible refine kon_bin fun R hR => ?_ | with_reducible refine kon_conv fun R hR => ?_)
           dsimp only [go_sem, Nat.reduceAdd, Nat.reduceMul, Nat.reduceSub, Nat.reduceBEq, Nat.reduceLeDiff, Nat.reduceEqDiff, ↓dreduceIte, toG, tb55_67, tb55_129, tb55_130, tb55_131, tb55_132, tb55_133, conBreaksI, conClause, conIn, conRecsOk, conShownI, conSpeaks]
           try simp (disch := first | omega | (simp only [List.length_set, List.length_append, List.length_cons, List.length_nil, List.length_replicate]; omega)) only [guardP_T, guardP_pos, iteN, rd_set, List.set_set, List.length_set, eta_fact, eta_rumor, eta_doubt, eta_item, eta_rec, eta_due, look, look0, rd_toNat, wrap64, Int.toNat_natCast, Nat.zero_add, List.take_length, List.drop_zero, and_self, setB_len, true_and, and_true, recM_iff, recM_no, brk_iff, brk_no, inr_iff, inr_no, lastK_def]
           with_reducible refine hR _ ?_
           clear hR R)
        | (with_reducible refine kon_ins fun R hR => ?_
           dsimp only [go_sem, Nat.reduceAdd, Nat.reduceMul, Nat.reduceSub, Nat.reduceBEq, Nat.reduceLeDiff, Nat.reduceEqDiff, ↓dreduceIte, toG, tb55_67, tb55_129, tb55_130, tb55_131, tb55_132, tb55_133, conBreaksI, conClause, conIn, conRecsOk, conShownI, conSpeaks]
           first
             | with_reducible refine hR _ ?_
             | (simp (disch := first | omega | (simp only [List.length_set, List.length_append, List.length_cons, List.length_nil, List.length_replicate]; omega)) only [guardP_T, guardP_pos, iteN, rd_set, List.set_set, List.length_set, eta_fact, eta_rumor, eta_doubt, eta_item, eta_rec, eta_due, look, look0, rd_toNat, wrap64, Int.toNat_natCast, Nat.zero_add, List.take_length, List.drop_zero, and_self, setB_len, true_and, and_true, recM_iff, recM_no, brk_iff, brk_no, inr_iff, inr_no, lastK_def]
                try dsimp only [go_sem, Nat.reduceAdd, Nat.reduceMul, Nat.reduceSub, Nat.reduceBEq, Nat.reduceLeDiff, Nat.reduceEqDiff, ↓dreduceIte, toG, tb55_67, tb55_129, tb55_130, tb55_131, tb55_132, tb55_133, conBreaksI, conClause, conIn, conRecsOk, conShownI, conSpeaks]
                try simp (disch := first | omega | (simp only [List.length_set, List.length_append, List.length_cons, List.length_nil, List.length_replicate]; omega)) only [guardP_T, guardP_pos, iteN, rd_set, List.set_set, List.length_set, eta_fact, eta_rumor, eta_doubt, eta_item, eta_rec, eta_due, look, look0, rd_toNat, wrap64, Int.toNat_natCast, Nat.zero_add, List.take_length, List.drop_zero, and_self, setB_len, true_and, and_true, recM_iff, recM_no, brk_iff, brk_no, inr_iff, inr_no, lastK_def]
                with_reducible refine hR _ ?_)
           clear hR R)
        | (with_reducible refine kon_g_run ?_ ?_
           · dsimp only [nth] <;> with_reducible rfl)
        | (with_reducible refine kon_g_skip ?_ ?_
           · dsimp only [nth, not_t', not_f'] <;> with_reducible rfl
           dsimp only [go_sem])
        | (with_reducible refine kon_g_undef ?_ ?_
           · dsimp only [nth] <;> with_reducible rfl
           dsimp only [go_sem])
        | (with_reducible refine kon_g fun R hR => ?_
           dsimp only [go_sem, Nat.reduceAdd, Nat.reduceMul, Nat.reduceSub, Nat.reduceBEq, Nat.reduceLeDiff, Nat.reduceEqDiff, ↓dreduceIte, toG, tb55_67, tb55_129, tb55_130, tb55_131, tb55_132, tb55_133, conBreaksI, conClause, conIn, conRecsOk, conShownI, conSpeaks]
           split <;> (rename_i hb; with_reducible refine hR _ ?_; clear hR R; try simp only [hb]; try simp only [decide_eq_true_eq, decide_eq_false_iff_not, beq_iff_eq, beq_eq_false_iff_ne, bne_iff_ne, bne_eq_false_iff_eq, Bool.not_eq_true, Bool.not_eq_false, Bool.not_eq_eq_eq_not, Bool.not_true, Bool.not_false, ne_eq, Int.not_lt, Int.not_le, eq_self, not_true_eq_false, not_false_eq_true, decide_true, decide_false, Bool.and_eq_true, Bool.or_eq_true, Bool.and_eq_false_iff, Bool.or_eq_false_iff, gt_iff_lt, ge_iff_le, Bool.false_eq_true, Bool.true_eq_false, reduceCtorEq, or_false, false_or, or_true, true_or, false_and, and_false, recM_iff, recM_no, brk_iff, brk_no, inr_iff, inr_no, lastK_def] at hb; try (exfalso; omega)))
        | (with_reducible refine kon_cond fun R1 R2 h1 h2 => ?_
           dsimp only [go_sem]
           first
             | (with_reducible refine h1 ?_; clear h1 h2 R1 R2)
             | (with_reducible refine h2 ?_; clear h1 h2 R1 R2)
             | ((split <;> rename_i hb <;> first
                 | (with_reducible refine h1 ?_; clear h1 h2 R1 R2; try simp only [hb])
                 | (with_reducible refine h2 ?_; clear h1 h2 R1 R2; try simp only [hb])) <;> (try simp only [decide_eq_true_eq, decide_eq_false_iff_not, beq_iff_eq, beq_eq_false_iff_ne, bne_iff_ne, bne_eq_false_iff_eq, Bool.not_eq_true, Bool.not_eq_false, Bool.not_eq_eq_eq_not, Bool.not_true, Bool.not_false, ne_eq, Int.not_lt, Int.not_le, eq_self, not_true_eq_false, not_false_eq_true, decide_true, decide_false, Bool.and_eq_true, Bool.or_eq_true, Bool.and_eq_false_iff, Bool.or_eq_false_iff, gt_iff_lt, ge_iff_le, Bool.false_eq_true, Bool.true_eq_false, reduceCtorEq, or_false, false_or, or_true, true_or, false_and, and_false, recM_iff, recM_no, brk_iff, brk_no, inr_iff, inr_no, lastK_def] at hb; try (exfalso; omega))))
        | (with_reducible refine kon_rounds (a := lp55_0) [0, 1, 2, 24, 25, 26] (fun n9 s9 => ∃ (i : Int), ((0 ≤ i) ∧ (i ≤ ls.length) ∧ ((ls.take i.toNat).all (fun k => inr k 0 (l.length - 1)) = true) ∧ (0 < i → 0 ≤ @rd Int _ ls 0) ∧ (0 < i → @rd Int _ ls 0 < l.length) ∧ (1 < i → 0 ≤ @rd Int _ ls 1) ∧ (1 < i → @rd Int _ ls 1 < l.length) ∧ (recM l = 1) ∧ (1 ≤ ls.length) ∧ (ls.length ≤ 2) ∧ (1 ≤ c) ∧ (c ≤ 9) ∧ (l.length ≤ 400)) ∧ n9 = (ls.length - i).toNat ∧ s9.m = [] ∧ s9.t = [.sl .rcd l, .int .i64 c, .sl .int ls, nth s9.t 3, nth s9.t 4, nth s9.t 5, nth s9.t 6, nth s9.t 7, nth s9.t 8, nth s9.t 9, nth s9.t 10, nth s9.t 11, nth s9.t 12, nth s9.t 13, nth s9.t 14, nth s9.t 15, nth s9.t 16, nth s9.t 17, nth s9.t 18, nth s9.t 19, nth s9.t 20, nth s9.t 21, nth s9.t 22, nth s9.t 23, .sl .int ls, .int .i64 ls.length, .int .i64 i, nth s9.t 27, nth s9.t 28, nth s9.t 29, nth s9.t 30, nth s9.t 31, nth s9.t 32, nth s9.t 33, nth s9.t 34, nth s9.t 35, nth s9.t 36, nth s9.t 37, nth s9.t 38, nth s9.t 39, nth s9.t 40, nth s9.t 41, nth s9.t 42, nth s9.t 43, nth s9.t 44, nth s9.t 45, nth s9.t 46, nth s9.t 47, nth s9.t 48, nth s9.t 49, nth s9.t 50, nth s9.t 51, nth s9.t 52, nth s9.t 53, nth s9.t 54, nth s9.t 55, nth s9.t 56, nth s9.t 57, nth s9.t 58, nth s9.t 59, nth s9.t 60, nth s9.t 61, nth s9.t 62, nth s9.t 63, nth s9.t 64, nth s9.t 65, nth s9.t 66, nth s9.t 67, nth s9.t 68, nth s9.t 69, nth s9.t 70, nth s9.t 71, nth s9.t 72, nth s9.t 73, nth s9.t 74, nth s9.t 75, nth s9.t 76, nth s9.t 77, nth s9.t 78, nth s9.t 79, nth s9.t 80, nth s9.t 81]) ?_ ?_
           all_goals first
             | (rintro n9 ⟨t9, m9⟩ ⟨i, ⟨hI0, hI1, hI2, hI3, hI4, hI5, hI6, hI7, hI8, hI9, hI10, hI11, hI12⟩, rfl, hm9, ht9⟩
                dsimp only at hm9 ht9
                subst hm9
                rw [ht9]
                clear ht9
                dsimp only [lp55_0])
             | (dsimp only [go_sem, Nat.reduceAdd, Nat.reduceMul, Nat.reduceSub, Nat.reduceBEq, Nat.reduceLeDiff, Nat.reduceEqDiff, ↓dreduceIte, toG, tb55_67, tb55_129, tb55_130, tb55_131, tb55_132, tb55_133, conBreaksI, conClause, conIn, conRecsOk, conShownI, conSpeaks]
                refine ⟨_, _, ⟨?_, ?_, ?_, ?_, ?_, ?_, ?_, ?_, ?_, ?_, ?_, ?_, ?_⟩, rfl, rfl, rfl⟩))
        | (with_reducible refine loop_again (keep := [0, 1, 2, 24, 25, 26]) ?_
           dsimp only [go_sem, Nat.reduceAdd, Nat.reduceMul, Nat.reduceSub, Nat.reduceBEq, Nat.reduceLeDiff, Nat.reduceEqDiff, ↓dreduceIte, toG, tb55_67, tb55_129, tb55_130, tb55_131, tb55_132, tb55_133, conBreaksI, conClause, conIn, conRecsOk, conShownI, conSpeaks]
           refine ⟨_, ?_, _, ⟨?_, ?_, ?_, ?_, ?_, ?_, ?_, ?_, ?_, ?_, ?_, ?_, ?_⟩, rfl, rfl, rfl⟩)
      all_goals first
        | (dsimp only [kon]
           with_reducible refine hQ _ _ _ ?_
           dsimp only [kon, endQ, af55, conShows, go_sem, Nat.reduceAdd, Nat.reduceMul, Nat.reduceSub, Nat.reduceBEq, Nat.reduceLeDiff, Nat.reduceEqDiff, ↓dreduceIte, toG, tb55_67, tb55_129, tb55_130, tb55_131, tb55_132, tb55_133, conBreaksI, conClause, conIn, conRecsOk, conShownI, conSpeaks]
           try simp (disch := first | omega | (simp only [List.length_set, List.length_append, List.length_cons, List.length_nil, List.length_replicate]; omega)) only [guardP_T, guardP_pos, iteN, rd_set, List.set_set, List.length_set, eta_fact, eta_rumor, eta_doubt, eta_item, eta_rec, eta_due, look, look0, rd_toNat, wrap64, Int.toNat_natCast, Nat.zero_add, List.take_length, List.drop_zero, and_self, setB_len, true_and, and_true]
           try dsimp only [go_sem, Nat.reduceAdd, Nat.reduceMul, Nat.reduceSub, Nat.reduceBEq, Nat.reduceLeDiff, Nat.reduceEqDiff, ↓dreduceIte, toG, tb55_67, tb55_129, tb55_130, tb55_131, tb55_132, tb55_133, conBreaksI, conClause, conIn, conRecsOk, conShownI, conSpeaks])
        | skip
      all_goals try first
        | omega
        | (simp; done)
        | (simp; omega)
      all_goals first
        | (rw [showsB_rec (by assumption)]; done)
        | (rw [showsB_c (by assumption)]; done)
        | (rw [showsB_len (by omega)]; done)
        | (rw [showsB_rng (all_inr_no hI0 (by omega) (by rw [inr_no]; assumption))]; done)
        | (rw [showsB_brk (by assumption)]; done)
        | (refine all_inr_step hI0 (by omega) hI2 ?_
           rw [inr_iff]
           first
             | assumption
             | (exact hb)
             | (constructor <;> omega))
        | (intro _
           by_cases e : i = 0
           · subst e
             first
               | exact hb.1
               | exact Int.lt_of_le_sub_one hb.2
               | (exfalso; omega)
               | omega
           · first
               | exact hI3 (by omega)
               | exact hI4 (by omega))
        | (intro _
           by_cases e : i = 1
           · subst e
             first
               | exact hb.1
               | exact Int.lt_of_le_sub_one hb.2
               | omega
           · first
               | exact hI5 (by omega)
               | exact hI6 (by omega))
        | (have ht := hI2
           rw [take_all (by omega)] at ht
           have hbk : brkN l (lastK ls) c = 1 := by assumption
           rw [showsB_go hI7 hI12 ⟨hI10, hI11⟩ hI8 hI9 ht hbk]
           have hbt : breaksI l (lastK ls) c = true := by rw [brk_iff]; exact hbk
           have hrt : recsOk l = true := by rw [recM_iff]; exact ⟨hI7, hI12⟩
           first
             | (rw [if_pos (by omega), decide_eq_true hb]
                simp
                done)
             | (rw [if_pos (by omega), decide_eq_false (Int.not_lt.2 hb)]
                simp
                done)
             | (rw [if_pos (by omega), decide_eq_true (hI13 (by omega)), speaks_same hrt (hI3 (by omega)) (by omega) (by omega) hbt]
                simp
                done)
             | (rw [if_neg (by omega), if_pos hb]
                done)
             | (rw [if_neg (by omega), if_neg (by assumption)]
                simp [*]
                done)
             | (have hc : c = 2 := by assumption
                rw [if_neg (by omega), if_pos hc, shown_life hrt (by omega) (by omega) (by rw [← hc]; exact hbt)]
                done)
             | (rw [if_neg (by omega), if_neg (by omega)]
                simp
                omega))
    · simp at h'

def tb53 : Tab := fun f => match f with
  | 70 => some conRecsOk
  | 125 => some conIn
  | 126 => some conBreaksS
  | 127 => some conFirst
  | 128 => some conLast
  | _ => none

theorem tb53_70 : tb53 70 = some conRecsOk := rfl
theorem tb53_125 : tb53 125 = some conIn := rfl
theorem tb53_126 : tb53 126 = some conBreaksS := rfl
theorem tb53_127 : tb53 127 = some conFirst := rfl
theorem tb53_128 : tb53 128 = some conLast := rfl

-- loop.example/g00678/spec.Shows hows [(6, [.any, .any, .any, .any, .any, .any, .any, .pure, .any, .any, .any, .any, .any, .any, .any, .any, .any, .any, .any, .any, .any, .any, .any, .any, .any], [])]
def lp53_0 : AC := .seq (.seq (.reg [⟨some 32, .mv (.t 7), none⟩,
        ⟨some 33, .mv (.t 2), none⟩,
        ⟨some 34, .len (.t 33), none⟩,
        ⟨some 35, .bin .lss (.t 32) (.t 34), none⟩])
      (.cond (.t 35)
        (.skip)
        (.exit 0)))
      (.seq (.block 1 (.seq (.reg [⟨some 38, .mv (.t 2), none⟩,
          ⟨some 39, .mv (.t 7), none⟩,
          ⟨some 40, .ia .int (.t 38) (.t 39), none⟩,
          ⟨some 41, .ld false 1 (.t 40), none⟩,
          ⟨some 42, .mv (.t 0), none⟩,
          ⟨some 43, .len (.t 42), none⟩,
          ⟨some 44, .bin .sub (.t 43) (.i 1), none⟩,
          ⟨some 45, .callp 125 [(.t 41), (.i 0), (.t 44)], none⟩,
          ⟨some 46, .un .not (.t 45), none⟩,
          ⟨some 47, .mv (.t 46), none⟩,
          ⟨some 48, .mv (.t 7), some (47, false)⟩,
          ⟨some 49, .bin .gtr (.t 48) (.i 0), some (47, false)⟩,
          ⟨some 50, .mv (.t 49), some (47, false)⟩,
          ⟨some 51, .mv (.t 2), some (50, true)⟩,
          ⟨some 52, .mv (.t 7), some (50, true)⟩,
          ⟨some 53, .bin .sub (.t 52) (.i 1), some (50, true)⟩,
          ⟨some 54, .ia .int (.t 51) (.t 53), some (50, true)⟩,
          ⟨some 55, .ld false 1 (.t 54), some (50, true)⟩,
          ⟨some 56, .mv (.t 2), some (50, true)⟩,
          ⟨some 57, .mv (.t 7), some (50, true)⟩,
          ⟨some 58, .ia .int (.t 56) (.t 57), some (50, true)⟩,
          ⟨some 59, .ld false 1 (.t 58), some (50, true)⟩,
          ⟨some 60, .bin .geq (.t 55) (.t 59), some (50, true)⟩,
          ⟨some 61, .pick (.t 50) (.t 60) (.b false), some (47, false)⟩,
          ⟨some 62, .pick (.t 47) (.b true) (.t 61), none⟩])
        (.cond (.t 62)
          (.seq (.reg [⟨some 6, .mv (.b false), none⟩])
          (.ret))
          (.skip))))
      (.reg [⟨some 36, .mv (.t 7), none⟩,
        ⟨some 37, .bin .add (.t 36) (.i 1), none⟩,
        ⟨some 7, .mv (.t 37), none⟩]))
def af53 : AF := ⟨105, [.t 6],
  .seq (.reg [⟨some 6, .mv (.b false), none⟩])
  (.seq (.seq (.reg [⟨some 9, .mv (.t 2), none⟩,
    ⟨some 10, .len (.t 9), none⟩,
    ⟨some 11, .bin .gtr (.t 10) (.i 400), none⟩,
    ⟨some 12, .mv (.t 11), none⟩,
    ⟨some 13, .mv (.t 0), some (12, false)⟩,
    ⟨some 14, .call 70 [(.t 13)], some (12, false)⟩,
    ⟨some 15, .un .not (.t 14), some (12, false)⟩,
    ⟨some 16, .pick (.t 12) (.b true) (.t 15), none⟩,
    ⟨some 17, .mv (.t 16), none⟩,
    ⟨some 18, .mv (.t 1), some (17, false)⟩,
    ⟨some 19, .call 125 [(.t 18), (.i 1), (.i 9)], some (17, false)⟩,
    ⟨some 20, .un .not (.t 19), some (17, false)⟩,
    ⟨some 21, .pick (.t 17) (.b true) (.t 20), none⟩,
    ⟨some 22, .mv (.t 21), none⟩,
    ⟨some 23, .mv (.t 2), some (22, false)⟩,
    ⟨some 24, .len (.t 23), some (22, false)⟩,
    ⟨some 25, .bin .lss (.t 24) (.i 1), some (22, false)⟩,
    ⟨some 26, .pick (.t 22) (.b true) (.t 25), none⟩,
    ⟨some 27, .mv (.t 26), none⟩,
    ⟨some 28, .mv (.t 2), some (27, false)⟩,
    ⟨some 29, .len (.t 28), some (27, false)⟩,
    ⟨some 30, .bin .gtr (.t 29) (.i 2), some (27, false)⟩,
    ⟨some 31, .pick (.t 27) (.b true) (.t 30), none⟩])
  (.cond (.t 31)
    (.seq (.reg [⟨some 6, .mv (.b false), none⟩])
    (.ret))
    (.skip)))
  (.seq (.seq (.reg [⟨some 7, .mv (.i 0), none⟩])
  (.block 0 (.loop lp53_0)))
  (.seq (.reg [⟨some 63, .mv (.t 2), none⟩,
    ⟨some 64, .mv (.t 2), none⟩,
    ⟨some 65, .len (.t 64), none⟩,
    ⟨some 66, .bin .sub (.t 65) (.i 1), none⟩,
    ⟨some 67, .ia .int (.t 63) (.t 66), none⟩,
    ⟨some 68, .ld false 1 (.t 67), none⟩,
    ⟨some 8, .mv (.t 68), none⟩])
  (.seq (.seq (.reg [⟨some 69, .mv (.t 0), none⟩,
    ⟨some 70, .mv (.t 8), none⟩,
    ⟨some 71, .mv (.t 1), none⟩,
    ⟨some 72, .call 126 [(.t 69), (.t 70), (.t 71)], none⟩,
    ⟨some 73, .un .not (.t 72), none⟩])
  (.cond (.t 73)
    (.seq (.reg [⟨some 6, .mv (.b false), none⟩])
    (.ret))
    (.skip)))
  (.seq (.seq (.reg [⟨some 74, .mv (.t 2), none⟩,
    ⟨some 75, .len (.t 74), none⟩,
    ⟨some 76, .bin .eql (.t 75) (.i 2), none⟩])
  (.cond (.t 76)
    (.seq (.reg [⟨some 77, .mv (.t 0), none⟩,
      ⟨some 78, .mv (.t 2), none⟩,
      ⟨some 79, .ia .int (.t 78) (.i 0), none⟩,
      ⟨some 80, .ld false 1 (.t 79), none⟩,
      ⟨some 81, .mv (.t 8), none⟩,
      ⟨some 82, .mv (.t 1), none⟩,
      ⟨some 83, .call 127 [(.t 77), (.t 80), (.t 81), (.t 82)], none⟩,
      ⟨some 6, .mv (.t 83), none⟩])
    (.ret))
    (.skip)))
  (.seq (.reg [⟨some 84, .mv (.t 1), none⟩,
    ⟨some 85, .bin .eql (.t 84) (.i 5), none⟩,
    ⟨some 86, .mv (.t 85), none⟩,
    ⟨some 87, .mv (.t 1), some (86, false)⟩,
    ⟨some 88, .bin .geq (.t 87) (.i 7), some (86, false)⟩,
    ⟨some 89, .pick (.t 86) (.b true) (.t 88), none⟩,
    ⟨some 90, .mv (.t 89), none⟩,
    ⟨some 91, .mv (.t 1), some (90, false)⟩,
    ⟨some 92, .bin .eql (.t 91) (.i 2), some (90, false)⟩,
    ⟨some 93, .mv (.t 92), some (90, false)⟩,
    ⟨some 94, .mv (.t 0), some (93, true)⟩,
    ⟨some 95, .mv (.t 8), some (93, true)⟩,
    ⟨some 96, .mv (.t 0), some (93, true)⟩,
    ⟨some 97, .mv (.t 8), some (93, true)⟩,
    ⟨some 98, .ia .rcd (.t 96) (.t 97), some (93, true)⟩,
    ⟨some 99, .fa 1 (.t 98), some (93, true)⟩,
    ⟨some 100, .ld false 1 (.t 99), some (93, true)⟩,
    ⟨some 101, .call 128 [(.t 94), (.t 95), (.t 100)], some (93, true)⟩,
    ⟨some 102, .bin .lss (.t 101) (.i 0), some (93, true)⟩,
    ⟨some 103, .pick (.t 93) (.t 102) (.b false), some (90, false)⟩,
    ⟨some 104, .pick (.t 90) (.b true) (.t 103), none⟩,
    ⟨some 6, .mv (.t 104), none⟩])
  (.ret)))))))⟩

set_option maxHeartbeats 4000000 in
theorem does53 (as : List AV) (hok : ok 64 as) : Does tb53 af53 conShows as := by
  cases h : (conShows).run as with
  | none => exact does_none h
  | some out =>
    have h' := h
    simp only [conShows] at h'
    split at h'
    · rename_i l c ls
      simp only [ok] at hok
      obtain ⟨⟨hlen, _⟩, _, ⟨hlen2, _⟩, _⟩ := hok
      have hk2 := lastK_2 (ls := ls)
      have hk1 := lastK_1 (ls := ls)
      have hc2 : c = 2 → brkN l (lastK ls) c = brkN l (lastK ls) 2 := fun h => by rw [h]
      simp only [Option.some.injEq] at h'
      subst h'
      have hmo : (most : Int) = 1099511627776 := rfl
      have hml : (maxLen : Int) = 9223372036854775807 := rfl
      with_reducible refine does_by h fun Q hQ => ?_
      clear h
      dsimp only [af53, conShows, go_sem, Nat.reduceAdd, Nat.reduceMul, Nat.reduceSub, Nat.reduceBEq, Nat.reduceLeDiff, Nat.reduceEqDiff, ↓dreduceIte, toG, tb53_70, tb53_125, tb53_126, tb53_127, tb53_128, conBreaksS, conFirst, conIn, conLast, conRecsOk]
      repeat' first
        | with_reducible refine kon_seq ?_
        | with_reducible refine kon_nil ?_
        | with_reducible refine kon_any ?_ ?_
        | with_reducible exact kon_any_nil
        | with_reducible refine kon_skip ?_
        | with_reducible refine kon_block ?_
        | with_reducible refine kon_ret ?_
        | with_reducible refine kon_exit ?_
        | with_reducible refine kon_past_ret ?_
        | with_reducible refine kon_past_exit ?_
        | with_reducible refine kon_blk_ret ?_
        | with_reducible refine kon_blk_end ?_
        | with_reducible refine kon_blk_exit ?_
        | (with_reducible refine kon_blk_past ?_ ?_
           · decide)
        | with_reducible refine loop_exit ?_
        | with_reducible refine loop_ret ?_
        | with_reducible refine mid_exit ?_
        | with_reducible refine mid_ret ?_
        | ((first | with_reducible refine kon_bin fun R hR => ?_ | with_reducible refine kon_conv fun R hR => ?_)
           dsimp only [go_sem, Nat.reduceAdd, Nat.reduceMul, Nat.reduceSub, Nat.reduceBEq, Nat.reduceLeDiff, Nat.reduceEqDiff, ↓dreduceIte, toG, tb53_70, tb53_125, tb53_126, tb53_127, tb53_128, conBreaksS, conFirst, conIn, conLast, conRecsOk]
           try simp (disch := first | omega | (simp only [List.length_set, List.length_append, List.length_cons, List.length_nil, List.length_replicate]; omega)) only [guardP_T, guardP_pos, iteN, rd_set, List.set_set, List.length_set, eta_fact, eta_rumor, eta_doubt, eta_item, eta_rec, eta_due, look, look0, rd_toNat, wrap64, Int.toNat_natCast, Nat.zero_add, List.take_length, List.drop_zero, and_self, setB_len, true_and, and_true, recM_iff, recM_no, brk_iff, brk_no, inr_iff, inr_no, lastK_def]
           with_reducible refine hR _ ?_
           clear hR R)
        | (with_reducible refine kon_ins fun R hR => ?_
           dsimp only [go_sem, Nat.reduceAdd, Nat.reduceMul, Nat.reduceSub, Nat.reduceBEq, Nat.reduceLeDiff, Nat.reduceEqDiff, ↓dreduceIte, toG, tb53_70, tb53_125, tb53_126, tb53_127, tb53_128, conBreaksS, conFirst, conIn, conLast, conRecsOk]
           first
             | with_reducible refine hR _ ?_
             | (simp (disch := first | omega | (simp only [List.length_set, List.length_append, List.length_cons, List.length_nil, List.length_replicate]; omega)) only [guardP_T, guardP_pos, iteN, rd_set, List.set_set, List.length_set, eta_fact, eta_rumor, eta_doubt, eta_item, eta_rec, eta_due, look, look0, rd_toNat, wrap64, Int.toNat_natCast, Nat.zero_add, List.take_length, List.drop_zero, and_self, setB_len, true_and, and_true, recM_iff, recM_no, brk_iff, brk_no, inr_iff, inr_no, lastK_def]
                try dsimp only [go_sem, Nat.reduceAdd, Nat.reduceMul, Nat.reduceSub, Nat.reduceBEq, Nat.reduceLeDiff, Nat.reduceEqDiff, ↓dreduceIte, toG, tb53_70, tb53_125, tb53_126, tb53_127, tb53_128, conBreaksS, conFirst, conIn, conLast, conRecsOk]
                try simp (disch := first | omega | (simp only [List.length_set, List.length_append, List.length_cons, List.length_nil, List.length_replicate]; omega)) only [guardP_T, guardP_pos, iteN, rd_set, List.set_set, List.length_set, eta_fact, eta_rumor, eta_doubt, eta_item, eta_rec, eta_due, look, look0, rd_toNat, wrap64, Int.toNat_natCast, Nat.zero_add, List.take_length, List.drop_zero, and_self, setB_len, true_and, and_true, recM_iff, recM_no, brk_iff, brk_no, inr_iff, inr_no, lastK_def]
                with_reducible refine hR _ ?_)
           clear hR R)
        | (with_reducible refine kon_g_run ?_ ?_
           · dsimp only [nth] <;> with_reducible rfl)
        | (with_reducible refine kon_g_skip ?_ ?_
           · dsimp only [nth, not_t', not_f'] <;> with_reducible rfl
           dsimp only [go_sem])
        | (with_reducible refine kon_g_undef ?_ ?_
           · dsimp only [nth] <;> with_reducible rfl
           dsimp only [go_sem])
        | (with_reducible refine kon_g fun R hR => ?_
           dsimp only [go_sem, Nat.reduceAdd, Nat.reduceMul, Nat.reduceSub, Nat.reduceBEq, Nat.reduceLeDiff, Nat.reduceEqDiff, ↓dreduceIte, toG, tb53_70, tb53_125, tb53_126, tb53_127, tb53_128, conBreaksS, conFirst, conIn, conLast, conRecsOk]
           split <;> (rename_i hb; with_reducible refine hR _ ?_; clear hR R; try simp only [hb]; try simp only [decide_eq_true_eq, decide_eq_false_iff_not, beq_iff_eq, beq_eq_false_iff_ne, bne_iff_ne, bne_eq_false_iff_eq, Bool.not_eq_true, Bool.not_eq_false, Bool.not_eq_eq_eq_not, Bool.not_true, Bool.not_false, ne_eq, Int.not_lt, Int.not_le, eq_self, not_true_eq_false, not_false_eq_true, decide_true, decide_false, Bool.and_eq_true, Bool.or_eq_true, Bool.and_eq_false_iff, Bool.or_eq_false_iff, gt_iff_lt, ge_iff_le, Bool.false_eq_true, Bool.true_eq_false, reduceCtorEq, or_false, false_or, or_true, true_or, false_and, and_false, recM_iff, recM_no, brk_iff, brk_no, inr_iff, inr_no, lastK_def] at hb; try (exfalso; omega)))
        | (with_reducible refine kon_cond fun R1 R2 h1 h2 => ?_
           dsimp only [go_sem]
           first
             | (with_reducible refine h1 ?_; clear h1 h2 R1 R2)
             | (with_reducible refine h2 ?_; clear h1 h2 R1 R2)
             | ((split <;> rename_i hb <;> first
                 | (with_reducible refine h1 ?_; clear h1 h2 R1 R2; try simp only [hb])
                 | (with_reducible refine h2 ?_; clear h1 h2 R1 R2; try simp only [hb])) <;> (try simp only [decide_eq_true_eq, decide_eq_false_iff_not, beq_iff_eq, beq_eq_false_iff_ne, bne_iff_ne, bne_eq_false_iff_eq, Bool.not_eq_true, Bool.not_eq_false, Bool.not_eq_eq_eq_not, Bool.not_true, Bool.not_false, ne_eq, Int.not_lt, Int.not_le, eq_self, not_true_eq_false, not_false_eq_true, decide_true, decide_false, Bool.and_eq_true, Bool.or_eq_true, Bool.and_eq_false_iff, Bool.or_eq_false_iff, gt_iff_lt, ge_iff_le, Bool.false_eq_true, Bool.true_eq_false, reduceCtorEq, or_false, false_or, or_true, true_or, false_and, and_false, recM_iff, recM_no, brk_iff, brk_no, inr_iff, inr_no, lastK_def] at hb; try (exfalso; omega))))
        | (with_reducible refine kon_rounds (a := lp53_0) [0, 1, 2, 7] (fun n9 s9 => ∃ (i : Int), ((0 ≤ i) ∧ (i ≤ ls.length) ∧ ((ls.take i.toNat).all (fun k => inr k 0 (l.length - 1)) = true) ∧ (0 < i → 0 ≤ @rd Int _ ls 0) ∧ (0 < i → @rd Int _ ls 0 < l.length) ∧ (1 < i → 0 ≤ @rd Int _ ls 1) ∧ (1 < i → @rd Int _ ls 1 < l.length) ∧ (recM l = 1) ∧ (1 ≤ ls.length) ∧ (ls.length ≤ 2) ∧ (1 ≤ c) ∧ (c ≤ 9) ∧ (l.length ≤ 400) ∧ (1 < i → @rd Int _ ls 0 < @rd Int _ ls 1)) ∧ n9 = (ls.length - i).toNat ∧ s9.m = [] ∧ s9.t = [.sl .rcd l, .int .i64 c, .sl .int ls, nth s9.t 3, nth s9.t 4, nth s9.t 5, nth s9.t 6, .int .i64 i, nth s9.t 8, nth s9.t 9, nth s9.t 10, nth s9.t 11, nth s9.t 12, nth s9.t 13, nth s9.t 14, nth s9.t 15, nth s9.t 16, nth s9.t 17, nth s9.t 18, nth s9.t 19, nth s9.t 20, nth s9.t 21, nth s9.t 22, nth s9.t 23, nth s9.t 24, nth s9.t 25, nth s9.t 26, nth s9.t 27, nth s9.t 28, nth s9.t 29, nth s9.t 30, nth s9.t 31, nth s9.t 32, nth s9.t 33, nth s9.t 34, nth s9.t 35, nth s9.t 36, nth s9.t 37, nth s9.t 38, nth s9.t 39, nth s9.t 40, nth s9.t 41, nth s9.t 42, nth s9.t 43, nth s9.t 44, nth s9.t 45, nth s9.t 46, nth s9.t 47, nth s9.t 48, nth s9.t 49, nth s9.t 50, nth s9.t 51, nth s9.t 52, nth s9.t 53, nth s9.t 54, nth s9.t 55, nth s9.t 56, nth s9.t 57, nth s9.t 58, nth s9.t 59, nth s9.t 60, nth s9.t 61, nth s9.t 62, nth s9.t 63, nth s9.t 64, nth s9.t 65, nth s9.t 66, nth s9.t 67, nth s9.t 68, nth s9.t 69, nth s9.t 70, nth s9.t 71, nth s9.t 72, nth s9.t 73, nth s9.t 74, nth s9.t 75, nth s9.t 76, nth s9.t 77, nth s9.t 78, nth s9.t 79, nth s9.t 80, nth s9.t 81, nth s9.t 82, nth s9.t 83, nth s9.t 84, nth s9.t 85, nth s9.t 86, nth s9.t 87, nth s9.t 88, nth s9.t 89, nth s9.t 90, nth s9.t 91, nth s9.t 92, nth s9.t 93, nth s9.t 94, nth s9.t 95, nth s9.t 96, nth s9.t 97, nth s9.t 98, nth s9.t 99, nth s9.t 100, nth s9.t 101, nth s9.t 102, nth s9.t 103, nth s9.t 104]) ?_ ?_
           all_goals first
             | (rintro n9 ⟨t9, m9⟩ ⟨i, ⟨hI0, hI1, hI2, hI3, hI4, hI5, hI6, hI7, hI8, hI9, hI10, hI11, hI12, hI13⟩, rfl, hm9, ht9⟩
                dsimp only at hm9 ht9
                subst hm9
                rw [ht9]
                clear ht9
                dsimp only [lp53_0])
             | (dsimp only [go_sem, Nat.reduceAdd, Nat.reduceMul, Nat.reduceSub, Nat.reduceBEq, Nat.reduceLeDiff, Nat.reduceEqDiff, ↓dreduceIte, toG, tb53_70, tb53_125, tb53_126, tb53_127, tb53_128, conBreaksS, conFirst, conIn, conLast, conRecsOk]
                refine ⟨_, _, ⟨?_, ?_, ?_, ?_, ?_, ?_, ?_, ?_, ?_, ?_, ?_, ?_, ?_, ?_⟩, rfl, rfl, rfl⟩))
        | (with_reducible refine loop_again (keep := [0, 1, 2, 7]) ?_
           dsimp only [go_sem, Nat.reduceAdd, Nat.reduceMul, Nat.reduceSub, Nat.reduceBEq, Nat.reduceLeDiff, Nat.reduceEqDiff, ↓dreduceIte, toG, tb53_70, tb53_125, tb53_126, tb53_127, tb53_128, conBreaksS, conFirst, conIn, conLast, conRecsOk]
           refine ⟨_, ?_, _, ⟨?_, ?_, ?_, ?_, ?_, ?_, ?_, ?_, ?_, ?_, ?_, ?_, ?_, ?_⟩, rfl, rfl, rfl⟩)
      all_goals first
        | (dsimp only [kon]
           with_reducible refine hQ _ _ _ ?_
           dsimp only [kon, endQ, af53, conShows, go_sem, Nat.reduceAdd, Nat.reduceMul, Nat.reduceSub, Nat.reduceBEq, Nat.reduceLeDiff, Nat.reduceEqDiff, ↓dreduceIte, toG, tb53_70, tb53_125, tb53_126, tb53_127, tb53_128, conBreaksS, conFirst, conIn, conLast, conRecsOk]
           try simp (disch := first | omega | (simp only [List.length_set, List.length_append, List.length_cons, List.length_nil, List.length_replicate]; omega)) only [guardP_T, guardP_pos, iteN, rd_set, List.set_set, List.length_set, eta_fact, eta_rumor, eta_doubt, eta_item, eta_rec, eta_due, look, look0, rd_toNat, wrap64, Int.toNat_natCast, Nat.zero_add, List.take_length, List.drop_zero, and_self, setB_len, true_and, and_true]
           try dsimp only [go_sem, Nat.reduceAdd, Nat.reduceMul, Nat.reduceSub, Nat.reduceBEq, Nat.reduceLeDiff, Nat.reduceEqDiff, ↓dreduceIte, toG, tb53_70, tb53_125, tb53_126, tb53_127, tb53_128, conBreaksS, conFirst, conIn, conLast, conRecsOk])
        | skip
      all_goals try first
        | omega
        | (simp; done)
        | (simp; omega)
      all_goals first
        | (rw [showsB_rec (by assumption)]; done)
        | (rw [showsB_c (by assumption)]; done)
        | (rw [showsB_len (by omega)]; done)
        | (rw [showsB_rng (all_inr_no hI0 (by omega) (by rw [inr_no]; assumption))]; done)
        | (rw [showsB_brk (by assumption)]; done)
        | (refine all_inr_step hI0 (by omega) hI2 ?_
           rw [inr_iff]
           first
             | assumption
             | (exact hb)
             | (constructor <;> omega))
        | (intro _
           by_cases e : i = 0
           · subst e
             first
               | exact hb.1
               | exact Int.lt_of_le_sub_one hb.2
               | (exfalso; omega)
               | omega
           · first
               | exact hI3 (by omega)
               | exact hI4 (by omega))
        | (intro _
           by_cases e : i = 1
           · subst e
             first
               | exact hb.1
               | exact Int.lt_of_le_sub_one hb.2
               | omega
           · first
               | exact hI5 (by omega)
               | exact hI6 (by omega))
        | (have e : i = 1 := by omega
           subst e
           rw [showsB_asc hI9 (by omega) hb]
           done)
        | (intro _
           by_cases e : i = 1
           · subst e
             exact hb
           · exact hI13 (by omega))
        | (have hrt : recsOk l = true := by rw [recM_iff]; exact ⟨hI7, hI12⟩
           have hbt : breaksI l (lastK ls) c = false := by
             rw [breaks_same hrt (by omega) (by omega)]
             assumption
           rw [showsB_brk (by rw [← brk_no]; exact hbt)]
           done)
        | (have ht := hI2
           rw [take_all (by omega)] at ht
           have hrt : recsOk l = true := by rw [recM_iff]; exact ⟨hI7, hI12⟩
           have hbt : breaksI l (lastK ls) c = true := by
             rw [breaks_same hrt (by omega) (by omega)]
             assumption
           have hbk : brkN l (lastK ls) c = 1 := by rw [← brk_iff]; exact hbt
           rw [showsB_go hI7 hI12 ⟨hI10, hI11⟩ hI8 hI9 ht hbk]
           first
             | (rw [if_pos (by omega), decide_eq_true hb]
                simp
                done)
             | (rw [if_pos (by omega), decide_eq_false (Int.not_lt.2 hb)]
                simp
                done)
             | (rw [if_pos (by omega), decide_eq_true (hI13 (by omega)), speaks_same hrt (hI3 (by omega)) (by omega) (by omega) hbt]
                simp
                done)
             | (rw [if_neg (by omega), if_pos hb]
                done)
             | (rw [if_neg (by omega), if_neg (by assumption)]
                simp [*]
                done)
             | (have hc : c = 2 := by assumption
                rw [if_neg (by omega), if_pos hc, shown_life hrt (by omega) (by omega) (by rw [← hc]; exact hbt)]
                done)
             | (rw [if_neg (by omega), if_neg (by omega)]
                simp
                omega))
    · simp at h'

end Go.Proofs.Ytnghlmogcbmlfaa
