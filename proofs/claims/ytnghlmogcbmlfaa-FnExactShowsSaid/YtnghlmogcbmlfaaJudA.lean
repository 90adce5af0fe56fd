/- The place that shows that a clause is broken. -/
import Derived.Test.YtnghlmogcbmlfaaFitsG
namespace Go.Proofs.Ytnghlmogcbmlfaa
set_option linter.unusedVariables false
set_option linter.unusedSimpArgs false
set_option linter.unnecessarySimpa false

theorem recsOk_iff' (l : List Rec) : (recsOk l = true) = (l.all recOk = true ∧ l.length ≤ 400) := recsOk_iff l

def brkN (l : List Rec) (i c : Int) : Int := if breaksI l i c = true then 1 else 0
theorem brk_iff (l : List Rec) (i c : Int) : (breaksI l i c = true) = (brkN l i c = 1) := by
  unfold brkN
  by_cases h : breaksI l i c = true <;> simp [h]

def risL (l : List Rec) (i : Int) : List Int := selI (riseP (rd l i)) l (lastI (startP (rd l i).node) l i.toNat) i.toNat

/-- The place that shows a break, as the program says it. -/
def shownI (l : List Rec) (i c : Int) : Int :=
  if c = 1 then i - 1
  else if c = 2 then lastI (crashP (rd l i).node) l i.toNat
  else if c = 3 then (if livesB l i (rd l i).node = true then lastI (lifeP (rd l i).node) l i.toNat else firstI (noLessP (rd l i).node (rd l i).a) l 0)
  else if c = 4 then lastI (sameP (rd l i)) l i.toNat
  else if c = 6 then rd (risL l i) ((risL l i).length - 1)
  else -1

/-- The place that shows a break, as the specification says it. -/
def shownS (l : List Rec) (i c : Int) : Int :=
  if c = 1 then i - 1
  else if c = 2 then lastI (lifeP (rd l i).node) l i.toNat
  else if c = 3 then (if livesB l i (rd l i).node = true then lastI (lifeP (rd l i).node) l i.toNat else firstI (bornP (rd l i).node (rd l i).a) (l.take i.toNat) 0)
  else if c = 4 then lastI (sameP (rd l i)) l i.toNat
  else if c = 6 then riseI (riseP (rd l i)) (startP (rd l i).node) l i.toNat
  else -1

theorem crash_life (l : List Rec) (m : Int) (n : Nat) (h : ¬(0 ≤ lastI (lifeP m) l n ∧ (rd l (lastI (lifeP m) l n)).kind = 1)) : lastI (crashP m) l n = lastI (lifeP m) l n := by
  induction n with
  | zero => rfl
  | succ n ih =>
    rw [lastI, lastI]
    rw [lastI] at h
    by_cases hl : lifeP m (rd l n) = true
    · rw [if_pos hl] at h ⊢
      have hc : crashP m (rd l n) = true := by
        simp only [lifeP, crashP, Bool.and_eq_true, Bool.or_eq_true, beq_iff_eq] at hl ⊢
        rcases hl with ⟨h1, h2 | h2⟩
        · exact absurd ⟨by omega, h2⟩ h
        · exact ⟨h1, h2⟩
      rw [if_pos hc]
    · rw [if_neg hl] at h ⊢
      have hc : ¬crashP m (rd l n) = true := by
        intro hc
        apply hl
        simp only [lifeP, crashP, Bool.and_eq_true, Bool.or_eq_true, beq_iff_eq] at hc ⊢
        exact ⟨hc.1, .inr hc.2⟩
      rw [if_neg hc, ih h]

theorem firstI_same {p q : Rec → Bool} {l : List Rec} (h : ∀ x ∈ l, p x = q x) (n : Int) : firstI p l n = firstI q l n := by
  induction l generalizing n with
  | nil => rfl
  | cons x r ih =>
    rw [firstI, firstI, h x (by simp), ih (fun y hy => h y (by simp [hy]))]

theorem firstI_take {p : Rec → Bool} (l : List Rec) (n : Nat) (k : Int) (h : (l.take n).any p = true) : firstI p l k = firstI p (l.take n) k := by
  induction l generalizing n k with
  | nil => simp at h
  | cons x r ih =>
    cases n with
    | zero => simp at h
    | succ n =>
      rw [List.take_succ_cons, firstI, firstI]
      by_cases hx : p x = true
      · rw [if_pos hx, if_pos hx]
      · rw [if_neg hx, if_neg hx, ih n]
        simp only [List.take_succ_cons, List.any_cons, Bool.or_eq_true, hx, false_or] at h
        simpa using h

theorem risL_some {l : List Rec} {i : Int} (h : breaksI l i 6 = true) : 0 < (risL l i).length := by
  simp only [breaksI, show ¬((6 : Int) = 1) by decide, show ¬((6 : Int) = 2) by decide, show ¬((6 : Int) = 3) by decide, show ¬((6 : Int) = 4) by decide, show ¬((6 : Int) = 5) by decide, if_false, if_true, Bool.and_eq_true, decide_eq_true_eq] at h
  exact h.2

theorem shown_same {l : List Rec} {i c : Int} (h : recsOk l = true) (h0 : 0 ≤ i) (h1 : i < l.length) (hb : breaksI l i c = true) : shownI l i c = shownS l i c := by
  have hi := recsOk_mem h (rd_mem' h0 h1)
  have hn : i.toNat ≤ l.length := by omega
  unfold shownI shownS
  by_cases c1 : c = 1
  · rw [if_pos c1, if_pos c1]
  rw [if_neg c1, if_neg c1]
  by_cases c2 : c = 2
  · subst c2
    rw [if_pos rfl, if_pos rfl]
    apply crash_life
    intro hh
    simp only [breaksI, show ¬((2 : Int) = 1) by decide, if_false, if_true, livesB, Bool.and_eq_true, Bool.not_eq_true', Bool.and_eq_false_iff, decide_eq_false_iff_not, beq_eq_false_iff_ne, bne_iff_ne, ne_eq] at hb
    rcases hb.2 with h9 | h9
    · exact h9 hh.1
    · exact h9 hh.2
  rw [if_neg c2, if_neg c2]
  by_cases c3 : c = 3
  · subst c3
    rw [if_pos rfl, if_pos rfl]
    by_cases hv : livesB l i (rd l i).node = true
    · rw [if_pos hv, if_pos hv]
    · rw [if_neg hv, if_neg hv]
      simp only [breaksI, show ¬((3 : Int) = 1) by decide, show ¬((3 : Int) = 2) by decide, if_false, if_true, Bool.and_eq_true, Bool.or_eq_true, decide_eq_true_eq, hv, false_or, beq_iff_eq] at hb
      have hk : (rd l i).kind = 1 := hb.1
      have ha := recOk_start hi hk
      have hl : 0 ≤ lastI (noLessP (rd l i).node (rd l i).a) l i.toNat := by
        rcases hb.2 with h9 | h9
        · simp at h9
        · exact h9
      rw [lastI_any _ hn] at hl
      rw [firstI_take l i.toNat 0 hl]
      exact firstI_same (fun x _ => told_own x _ _ ha) 0
  rw [if_neg c3, if_neg c3]
  by_cases c4 : c = 4
  · rw [if_pos c4, if_pos c4]
  rw [if_neg c4, if_neg c4]
  by_cases c6 : c = 6
  · subst c6
    rw [if_pos rfl, if_pos rfl, ← rise_last]
    have hs := risL_some hb
    exact (lastL_rd (risL l i) (fun e => by rw [e] at hs; simp at hs)).symm
  · rw [if_neg c6, if_neg c6]

def conShownI : Con := ⟨[.imm .rcd, .v, .v], .v, fun as => match as with
  | [.sl .rcd l, .int .i64 i, .int .i64 c] => guardP (0 ≤ i ∧ i < l.length ∧ l.length ≤ 400 ∧ brkN l i c = 1) (some (.int .i64 (shownI l i c), []))
  | _ => none⟩

def conShownS : Con := ⟨[.imm .rcd, .v, .v], .v, fun as => match as with
  | [.sl .rcd l, .int .i64 i, .int .i64 c] => guardP (0 ≤ i ∧ i < l.length) (some (.int .i64 (shownS l i c), []))
  | _ => none⟩

def tb133 : Tab := fun f => match f with
  | 146 => some conLastOf
  | 180 => some conLives
  | 182 => some conNoLess
  | 183 => some conSame
  | 184 => some conRisen
  | 193 => some conLast
  | 194 => some conIndexR
  | _ => none

theorem tb133_146 : tb133 146 = some conLastOf := rfl
theorem tb133_180 : tb133 180 = some conLives := rfl
theorem tb133_182 : tb133 182 = some conNoLess := rfl
theorem tb133_183 : tb133 183 = some conSame := rfl
theorem tb133_184 : tb133 184 = some conRisen := rfl
theorem tb133_193 : tb133 193 = some conLast := rfl
theorem tb133_194 : tb133 194 = some conIndexR := rfl

-- loop.example/g00678/impl.shown hows []
def af133 : AF := ⟨61, [.t 6],
  .seq (.reg [⟨some 6, .mv (.i 0), none⟩])
  (.seq (.reg [⟨some 9, .mv (.t 0), none⟩,
    ⟨some 10, .mv (.t 1), none⟩,
    ⟨some 11, .ia .rcd (.t 9) (.t 10), none⟩,
    ⟨some 12, .ld true 6 (.t 11), none⟩,
    ⟨some 7, .box (.c (.agg [.int .i64 0, .int .i64 0, .int .i64 0, .int .i64 0, .int .i64 0, .int .i64 0])), none⟩,
    ⟨none, .st 6 (.t 7) (.t 12), none⟩])
  (.seq (.seq (.reg [⟨some 13, .mv (.t 2), none⟩])
  (.block 0 (.seq (.reg [⟨some 15, .bin .eql (.t 13) (.i 1), none⟩,
      ⟨some 14, .mv (.t 15), none⟩])
    (.cond (.t 14)
      (.seq (.reg [⟨some 16, .mv (.t 1), none⟩,
        ⟨some 17, .bin .sub (.t 16) (.i 1), none⟩,
        ⟨some 6, .mv (.t 17), none⟩])
      (.ret))
      (.seq (.reg [⟨some 19, .bin .eql (.t 13) (.i 2), none⟩,
        ⟨some 18, .mv (.t 19), none⟩])
      (.cond (.t 18)
        (.seq (.reg [⟨some 20, .mv (.t 0), none⟩,
          ⟨some 21, .mv (.t 1), none⟩,
          ⟨some 22, .mf 192 [(.t 7)], none⟩,
          ⟨some 23, .call 146 [(.t 20), (.t 21), (.t 22)], none⟩,
          ⟨some 6, .mv (.t 23), none⟩])
        (.ret))
        (.seq (.reg [⟨some 25, .bin .eql (.t 13) (.i 3), none⟩,
          ⟨some 24, .mv (.t 25), none⟩])
        (.cond (.t 24)
          (.seq (.seq (.reg [⟨some 26, .mv (.t 0), none⟩,
            ⟨some 27, .mv (.t 1), none⟩,
            ⟨some 28, .fa 1 (.t 7), none⟩,
            ⟨some 29, .ld false 1 (.t 28), none⟩,
            ⟨some 30, .call 180 [(.t 26), (.t 27), (.t 29)], none⟩])
          (.cond (.t 30)
            (.seq (.reg [⟨some 31, .mv (.t 0), none⟩,
              ⟨some 32, .mv (.t 1), none⟩,
              ⟨some 33, .fa 1 (.t 7), none⟩,
              ⟨some 34, .ld false 1 (.t 33), none⟩,
              ⟨some 35, .call 193 [(.t 31), (.t 32), (.t 34)], none⟩,
              ⟨some 6, .mv (.t 35), none⟩])
            (.ret))
            (.skip)))
          (.seq (.reg [⟨some 36, .mv (.t 0), none⟩,
            ⟨some 37, .fa 1 (.t 7), none⟩,
            ⟨some 38, .ld false 1 (.t 37), none⟩,
            ⟨some 39, .fa 3 (.t 7), none⟩,
            ⟨some 40, .ld false 1 (.t 39), none⟩,
            ⟨some 41, .call 182 [(.t 38), (.t 40)], none⟩,
            ⟨some 42, .call 194 [(.t 36), (.t 41)], none⟩,
            ⟨some 6, .mv (.t 42), none⟩])
          (.ret)))
          (.seq (.reg [⟨some 44, .bin .eql (.t 13) (.i 4), none⟩,
            ⟨some 43, .mv (.t 44), none⟩])
          (.cond (.t 43)
            (.seq (.reg [⟨some 45, .mv (.t 0), none⟩,
              ⟨some 46, .mv (.t 1), none⟩,
              ⟨some 47, .ld true 6 (.t 7), none⟩,
              ⟨some 48, .call 183 [(.t 47)], none⟩,
              ⟨some 49, .call 146 [(.t 45), (.t 46), (.t 48)], none⟩,
              ⟨some 6, .mv (.t 49), none⟩])
            (.ret))
            (.seq (.reg [⟨some 51, .bin .eql (.t 13) (.i 6), none⟩,
              ⟨some 50, .mv (.t 51), none⟩])
            (.cond (.t 50)
              (.seq (.reg [⟨some 52, .mv (.t 0), none⟩,
                ⟨some 53, .mv (.t 1), none⟩,
                ⟨some 54, .call 184 [(.t 52), (.t 53)], none⟩,
                ⟨some 8, .mv (.t 54), none⟩])
              (.seq (.reg [⟨some 55, .mv (.t 8), none⟩,
                ⟨some 56, .mv (.t 8), none⟩,
                ⟨some 57, .len (.t 56), none⟩,
                ⟨some 58, .bin .sub (.t 57) (.i 1), none⟩,
                ⟨some 59, .ia .int (.t 55) (.t 58), none⟩,
                ⟨some 60, .ld false 1 (.t 59), none⟩,
                ⟨some 6, .mv (.t 60), none⟩])
              (.ret)))
              (.skip)))))))))))))
  (.seq (.reg [⟨some 6, .mv (.i (-1)), none⟩])
  (.ret))))⟩

set_option maxHeartbeats 4000000 in
theorem does133 (as : List AV) (hok : ok 64 as) : Does tb133 af133 conShownI as := by
  cases h : (conShownI).run as with
  | none => exact does_none h
  | some out =>
    have h' := h
    simp only [conShownI] at h'
    split at h'
    · rename_i l i c
      by_cases hp : 0 ≤ i ∧ i < l.length ∧ l.length ≤ 400 ∧ brkN l i c = 1
      case neg => simp [guardP, hp] at h'
      rw [guardP_pos hp] at h'
      obtain ⟨hp1, hp2, hp3, hp4⟩ := hp
      simp only [ok] at hok
      obtain ⟨⟨hlen, _⟩, _⟩ := hok
      rw [← brk_iff] at hp4
      have hrs : c = 6 → 0 < (selI (riseP (rd l i)) l (lastI (startP (rd l i).node) l i.toNat) i.toNat).length := fun e => risL_some (e ▸ hp4)
      have hln := selI_length (riseP (rd l i)) l (lastI (startP (rd l i).node) l i.toNat) i.toNat
      simp only [Option.some.injEq] at h'
      subst h'
      have hmo : (most : Int) = 1099511627776 := rfl
      have hml : (maxLen : Int) = 9223372036854775807 := rfl
      with_reducible refine does_by h fun Q hQ => ?_
      clear h
      dsimp only [af133, conShownI, go_sem, Nat.reduceAdd, Nat.reduceMul, Nat.reduceSub, Nat.reduceBEq, Nat.reduceLeDiff, Nat.reduceEqDiff, ↓dreduceIte, toG, semR_143, semR_214, semR_147, semR_201, semR_211, semR_209, semR_210, semR_185, semR_187, semR_188, semR_192, semR_189, semR_190, tb133_146, tb133_180, tb133_182, tb133_183, tb133_184, tb133_193, tb133_194, conIndexR, conLast, conLastOf, conLives, conNoLess, conRisen, conSame]
      repeat' first
        | with_reducible refine kon_seq ?_
        | with_reducible refine kon_nil ?_
        | with_reducible refine kon_any ?_ ?_
        | with_reducible exact kon_any_nil
        | with_reducible refine kon_skip ?_
        | with_reducible refine kon_block ?_
        | with_reducible refine kon_ret ?_
        | with_reducible refine kon_exit ?_
        | with_reducible refine kon_past_ret ?_
        | with_reducible refine kon_past_exit ?_
        | with_reducible refine kon_blk_ret ?_
        | with_reducible refine kon_blk_end ?_
        | with_reducible refine kon_blk_exit ?_
        | (with_reducible refine kon_blk_past ?_ ?_
           · decide)
        | with_reducible refine loop_exit ?_
        | with_reducible refine loop_ret ?_
        | with_reducible refine mid_exit ?_
        | with_reducible refine mid_ret ?_
        | ((first | with_reducible refine kon_bin fun R hR => ?_ | with_reducible refine kon_conv fun R hR => ?_)
           dsimp only [go_sem, Nat.reduceAdd, Nat.reduceMul, Nat.reduceSub, Nat.reduceBEq, Nat.reduceLeDiff, Nat.reduceEqDiff, ↓dreduceIte, toG, semR_143, semR_214, semR_147, semR_201, semR_211, semR_209, semR_210, semR_185, semR_187, semR_188, semR_192, semR_189, semR_190, tb133_146, tb133_180, tb133_182, tb133_183, tb133_184, tb133_193, tb133_194, conIndexR, conLast, conLastOf, conLives, conNoLess, conRisen, conSame]
           try simp (disch := first | omega | (simp only [List.length_set, List.length_append, List.length_cons, List.length_nil, List.length_replicate]; omega)) only [guardP_T, guardP_pos, iteN, rd_set, List.set_set, List.length_set, eta_fact, eta_rumor, eta_doubt, eta_item, eta_rec, eta_due, look, look0, rd_toNat, wrap64, Int.toNat_natCast, Nat.zero_add, List.take_length, List.drop_zero, and_self, setB_len, true_and, and_true]
           with_reducible refine hR _ ?_
           clear hR R)
        | (with_reducible refine kon_ins fun R hR => ?_
           dsimp only [go_sem, Nat.reduceAdd, Nat.reduceMul, Nat.reduceSub, Nat.reduceBEq, Nat.reduceLeDiff, Nat.reduceEqDiff, ↓dreduceIte, toG, semR_143, semR_214, semR_147, semR_201, semR_211, semR_209, semR_210, semR_185, semR_187, semR_188, semR_192, semR_189, semR_190, tb133_146, tb133_180, tb133_182, tb133_183, tb133_184, tb133_193, tb133_194, conIndexR, conLast, conLastOf, conLives, conNoLess, conRisen, conSame]
           first
             | with_reducible refine hR _ ?_
             | (simp (disch := first | omega | (simp only [List.length_set, List.length_append, List.length_cons, List.length_nil, List.length_replicate]; omega)) only [guardP_T, guardP_pos, iteN, rd_set, List.set_set, List.length_set, eta_fact, eta_rumor, eta_doubt, eta_item, eta_rec, eta_due, look, look0, rd_toNat, wrap64, Int.toNat_natCast, Nat.zero_add, List.take_length, List.drop_zero, and_self, setB_len, true_and, and_true]
                try dsimp only [go_sem, Nat.reduceAdd, Nat.reduceMul, Nat.reduceSub, Nat.reduceBEq, Nat.reduceLeDiff, Nat.reduceEqDiff, ↓dreduceIte, toG, semR_143, semR_214, semR_147, semR_201, semR_211, semR_209, semR_210, semR_185, semR_187, semR_188, semR_192, semR_189, semR_190, tb133_146, tb133_180, tb133_182, tb133_183, tb133_184, tb133_193, tb133_194, conIndexR, conLast, conLastOf, conLives, conNoLess, conRisen, conSame]
                try simp (disch := first | omega | (simp only [List.length_set, List.length_append, List.length_cons, List.length_nil, List.length_replicate]; omega)) only [guardP_T, guardP_pos, iteN, rd_set, List.set_set, List.length_set, eta_fact, eta_rumor, eta_doubt, eta_item, eta_rec, eta_due, look, look0, rd_toNat, wrap64, Int.toNat_natCast, Nat.zero_add, List.take_length, List.drop_zero, and_self, setB_len, true_and, and_true]
                with_reducible refine hR _ ?_)
           clear hR R)
        | (with_reducible refine kon_g_run ?_ ?_
           · dsimp only [nth] <;> with_reducible rfl)
        | (with_reducible refine kon_g_skip ?_ ?_
           · dsimp only [nth, not_t', not_f'] <;> with_reducible rfl
           dsimp only [go_sem])
        | (with_reducible refine kon_g_undef ?_ ?_
           · dsimp only [nth] <;> with_reducible rfl
           dsimp only [go_sem])
        | (with_reducible refine kon_g fun R hR => ?_
           dsimp only [go_sem, Nat.reduceAdd, Nat.reduceMul, Nat.reduceSub, Nat.reduceBEq, Nat.reduceLeDiff, Nat.reduceEqDiff, ↓dreduceIte, toG, semR_143, semR_214, semR_147, semR_201, semR_211, semR_209, semR_210, semR_185, semR_187, semR_188, semR_192, semR_189, semR_190, tb133_146, tb133_180, tb133_182, tb133_183, tb133_184, tb133_193, tb133_194, conIndexR, conLast, conLastOf, conLives, conNoLess, conRisen, conSame]
           split <;> (rename_i hb; with_reducible refine hR _ ?_; clear hR R; try simp only [hb]; try simp only [decide_eq_true_eq, decide_eq_false_iff_not, beq_iff_eq, beq_eq_false_iff_ne, bne_iff_ne, bne_eq_false_iff_eq, Bool.not_eq_true, Bool.not_eq_false, Bool.not_eq_eq_eq_not, Bool.not_true, Bool.not_false, ne_eq, Int.not_lt, Int.not_le, eq_self, not_true_eq_false, not_false_eq_true, decide_true, decide_false, Bool.and_eq_true, Bool.or_eq_true, Bool.and_eq_false_iff, Bool.or_eq_false_iff, gt_iff_lt, ge_iff_le, Bool.false_eq_true, Bool.true_eq_false, reduceCtorEq, or_false, false_or, or_true, true_or, false_and, and_false] at hb; try (exfalso; omega)))
        | (with_reducible refine kon_cond fun R1 R2 h1 h2 => ?_
           dsimp only [go_sem]
           first
             | (with_reducible refine h1 ?_; clear h1 h2 R1 R2)
             | (with_reducible refine h2 ?_; clear h1 h2 R1 R2)
             | ((split <;> rename_i hb <;> first
                 | (with_reducible refine h1 ?_; clear h1 h2 R1 R2; try simp only [hb])
                 | (with_reducible refine h2 ?_; clear h1 h2 R1 R2; try simp only [hb])) <;> (try simp only [decide_eq_true_eq, decide_eq_false_iff_not, beq_iff_eq, beq_eq_false_iff_ne, bne_iff_ne, bne_eq_false_iff_eq, Bool.not_eq_true, Bool.not_eq_false, Bool.not_eq_eq_eq_not, Bool.not_true, Bool.not_false, ne_eq, Int.not_lt, Int.not_le, eq_self, not_true_eq_false, not_false_eq_true, decide_true, decide_false, Bool.and_eq_true, Bool.or_eq_true, Bool.and_eq_false_iff, Bool.or_eq_false_iff, gt_iff_lt, ge_iff_le, Bool.false_eq_true, Bool.true_eq_false, reduceCtorEq, or_false, false_or, or_true, true_or, false_and, and_false] at hb; try (exfalso; omega))))
      all_goals first
        | (dsimp only [kon]
           with_reducible refine hQ _ _ _ ?_
           dsimp only [kon, endQ, af133, conShownI, go_sem, Nat.reduceAdd, Nat.reduceMul, Nat.reduceSub, Nat.reduceBEq, Nat.reduceLeDiff, Nat.reduceEqDiff, ↓dreduceIte, toG, semR_143, semR_214, semR_147, semR_201, semR_211, semR_209, semR_210, semR_185, semR_187, semR_188, semR_192, semR_189, semR_190, tb133_146, tb133_180, tb133_182, tb133_183, tb133_184, tb133_193, tb133_194, conIndexR, conLast, conLastOf, conLives, conNoLess, conRisen, conSame]
           try simp (disch := first | omega | (simp only [List.length_set, List.length_append, List.length_cons, List.length_nil, List.length_replicate]; omega)) only [guardP_T, guardP_pos, iteN, rd_set, List.set_set, List.length_set, eta_fact, eta_rumor, eta_doubt, eta_item, eta_rec, eta_due, look, look0, rd_toNat, wrap64, Int.toNat_natCast, Nat.zero_add, List.take_length, List.drop_zero, and_self, setB_len, true_and, and_true]
           try dsimp only [go_sem, Nat.reduceAdd, Nat.reduceMul, Nat.reduceSub, Nat.reduceBEq, Nat.reduceLeDiff, Nat.reduceEqDiff, ↓dreduceIte, toG, semR_143, semR_214, semR_147, semR_201, semR_211, semR_209, semR_210, semR_185, semR_187, semR_188, semR_192, semR_189, semR_190, tb133_146, tb133_180, tb133_182, tb133_183, tb133_184, tb133_193, tb133_194, conIndexR, conLast, conLastOf, conLives, conNoLess, conRisen, conSame])
        | skip
      all_goals try first
        | omega
        | (simp; done)
        | (simp; omega)
      all_goals first
        | (subst_vars; simp_all [shownI, risL]; done)
        | (simp_all [shownI, risL]; done)
    · simp at h'

def tb195 : Tab := fun f => match f with
  | 128 => some conLast
  | 171 => some conLives
  | 172 => some conBorn
  | 173 => some conTwin
  | 175 => some conRise
  | _ => none

theorem tb195_128 : tb195 128 = some conLast := rfl
theorem tb195_171 : tb195 171 = some conLives := rfl
theorem tb195_172 : tb195 172 = some conBorn := rfl
theorem tb195_173 : tb195 173 = some conTwin := rfl
theorem tb195_175 : tb195 175 = some conRise := rfl

-- loop.example/g00678/spec.l12Shown hows []
def af195 : AF := ⟨53, [.t 6],
  .seq (.reg [⟨some 6, .mv (.i 0), none⟩])
  (.seq (.seq (.reg [⟨some 7, .mv (.t 2), none⟩])
  (.block 0 (.seq (.reg [⟨some 9, .bin .eql (.t 7) (.i 1), none⟩,
      ⟨some 8, .mv (.t 9), none⟩])
    (.cond (.t 8)
      (.seq (.reg [⟨some 10, .mv (.t 1), none⟩,
        ⟨some 11, .bin .sub (.t 10) (.i 1), none⟩,
        ⟨some 6, .mv (.t 11), none⟩])
      (.ret))
      (.seq (.reg [⟨some 13, .bin .eql (.t 7) (.i 2), none⟩,
        ⟨some 12, .mv (.t 13), none⟩])
      (.cond (.t 12)
        (.seq (.reg [⟨some 14, .mv (.t 0), none⟩,
          ⟨some 15, .mv (.t 1), none⟩,
          ⟨some 16, .mv (.t 0), none⟩,
          ⟨some 17, .mv (.t 1), none⟩,
          ⟨some 18, .ia .rcd (.t 16) (.t 17), none⟩,
          ⟨some 19, .fa 1 (.t 18), none⟩,
          ⟨some 20, .ld false 1 (.t 19), none⟩,
          ⟨some 21, .call 128 [(.t 14), (.t 15), (.t 20)], none⟩,
          ⟨some 6, .mv (.t 21), none⟩])
        (.ret))
        (.seq (.reg [⟨some 23, .bin .eql (.t 7) (.i 3), none⟩,
          ⟨some 22, .mv (.t 23), none⟩])
        (.cond (.t 22)
          (.seq (.seq (.reg [⟨some 24, .mv (.t 0), none⟩,
            ⟨some 25, .mv (.t 1), none⟩,
            ⟨some 26, .mv (.t 0), none⟩,
            ⟨some 27, .mv (.t 1), none⟩,
            ⟨some 28, .ia .rcd (.t 26) (.t 27), none⟩,
            ⟨some 29, .fa 1 (.t 28), none⟩,
            ⟨some 30, .ld false 1 (.t 29), none⟩,
            ⟨some 31, .call 171 [(.t 24), (.t 25), (.t 30)], none⟩])
          (.cond (.t 31)
            (.seq (.reg [⟨some 32, .mv (.t 0), none⟩,
              ⟨some 33, .mv (.t 1), none⟩,
              ⟨some 34, .mv (.t 0), none⟩,
              ⟨some 35, .mv (.t 1), none⟩,
              ⟨some 36, .ia .rcd (.t 34) (.t 35), none⟩,
              ⟨some 37, .fa 1 (.t 36), none⟩,
              ⟨some 38, .ld false 1 (.t 37), none⟩,
              ⟨some 39, .call 128 [(.t 32), (.t 33), (.t 38)], none⟩,
              ⟨some 6, .mv (.t 39), none⟩])
            (.ret))
            (.skip)))
          (.seq (.reg [⟨some 40, .mv (.t 0), none⟩,
            ⟨some 41, .mv (.t 1), none⟩,
            ⟨some 42, .call 172 [(.t 40), (.t 41)], none⟩,
            ⟨some 6, .mv (.t 42), none⟩])
          (.ret)))
          (.seq (.reg [⟨some 44, .bin .eql (.t 7) (.i 4), none⟩,
            ⟨some 43, .mv (.t 44), none⟩])
          (.cond (.t 43)
            (.seq (.reg [⟨some 45, .mv (.t 0), none⟩,
              ⟨some 46, .mv (.t 1), none⟩,
              ⟨some 47, .call 173 [(.t 45), (.t 46)], none⟩,
              ⟨some 6, .mv (.t 47), none⟩])
            (.ret))
            (.seq (.reg [⟨some 49, .bin .eql (.t 7) (.i 6), none⟩,
              ⟨some 48, .mv (.t 49), none⟩])
            (.cond (.t 48)
              (.seq (.reg [⟨some 50, .mv (.t 0), none⟩,
                ⟨some 51, .mv (.t 1), none⟩,
                ⟨some 52, .call 175 [(.t 50), (.t 51)], none⟩,
                ⟨some 6, .mv (.t 52), none⟩])
              (.ret))
              (.skip)))))))))))))
  (.seq (.reg [⟨some 6, .mv (.i (-1)), none⟩])
  (.ret)))⟩

set_option maxHeartbeats 4000000 in
theorem does195 (as : List AV) (hok : ok 64 as) : Does tb195 af195 conShownS as := by
  cases h : (conShownS).run as with
  | none => exact does_none h
  | some out =>
    have h' := h
    simp only [conShownS] at h'
    split at h'
    · rename_i l i c
      by_cases hp : 0 ≤ i ∧ i < l.length
      case neg => simp [guardP, hp] at h'
      rw [guardP_pos hp] at h'
      obtain ⟨hp1, hp2⟩ := hp
      simp only [ok] at hok
      obtain ⟨⟨hlen, _⟩, _⟩ := hok
      simp only [Option.some.injEq] at h'
      subst h'
      have hmo : (most : Int) = 1099511627776 := rfl
      have hml : (maxLen : Int) = 9223372036854775807 := rfl
      with_reducible refine does_by h fun Q hQ => ?_
      clear h
      dsimp only [af195, conShownS, go_sem, Nat.reduceAdd, Nat.reduceMul, Nat.reduceSub, Nat.reduceBEq, Nat.reduceLeDiff, Nat.reduceEqDiff, ↓dreduceIte, toG, tb195_128, tb195_171, tb195_172, tb195_173, tb195_175, conBorn, conLast, conLives, conRise, conTwin]
      repeat' first
        | with_reducible refine kon_seq ?_
        | with_reducible refine kon_nil ?_
        | with_reducible refine kon_any ?_ ?_
        | with_reducible exact kon_any_nil
        | with_reducible refine kon_skip ?_
        | with_reducible refine kon_block ?_
        | with_reducible refine kon_ret ?_
        | with_reducible refine kon_exit ?_
        | with_reducible refine kon_past_ret ?_
        | with_reducible refine kon_past_exit ?_
        | with_reducible refine kon_blk_ret ?_
        | with_reducible refine kon_blk_end ?_
        | with_reducible refine kon_blk_exit ?_
        | (with_reducible refine kon_blk_past ?_ ?_
           · decide)
        | with_reducible refine loop_exit ?_
        | with_reducible refine loop_ret ?_
        | with_reducible refine mid_exit ?_
        | with_reducible refine mid_ret ?_
        | ((first | with_reducible refine kon_bin fun R hR => ?_ | with_reducible refine kon_conv fun R hR => ?_)
           dsimp only [go_sem, Nat.reduceAdd, Nat.reduceMul, Nat.reduceSub, Nat.reduceBEq, Nat.reduceLeDiff, Nat.reduceEqDiff, ↓dreduceIte, toG, tb195_128, tb195_171, tb195_172, tb195_173, tb195_175, conBorn, conLast, conLives, conRise, conTwin]
           try simp (disch := first | omega | (simp only [List.length_set, List.length_append, List.length_cons, List.length_nil, List.length_replicate]; omega)) only [guardP_T, guardP_pos, iteN, rd_set, List.set_set, List.length_set, eta_fact, eta_rumor, eta_doubt, eta_item, eta_rec, eta_due, look, look0, rd_toNat, wrap64, Int.toNat_natCast, Nat.zero_add, List.take_length, List.drop_zero, and_self, setB_len, true_and, and_true]
           with_reducible refine hR _ ?_
           clear hR R)
        | (with_reducible refine kon_ins fun R hR => ?_
           dsimp only [go_sem, Nat.reduceAdd, Nat.reduceMul, Nat.reduceSub, Nat.reduceBEq, Nat.reduceLeDiff, Nat.reduceEqDiff, ↓dreduceIte, toG, tb195_128, tb195_171, tb195_172, tb195_173, tb195_175, conBorn, conLast, conLives, conRise, conTwin]
           first
             | with_reducible refine hR _ ?_
             | (simp (disch := first | omega | (simp only [List.length_set, List.length_append, List.length_cons, List.length_nil, List.length_replicate]; omega)) only [guardP_T, guardP_pos, iteN, rd_set, List.set_set, List.length_set, eta_fact, eta_rumor, eta_doubt, eta_item, eta_rec, eta_due, look, look0, rd_toNat, wrap64, Int.toNat_natCast, Nat.zero_add, List.take_length, List.drop_zero, and_self, setB_len, true_and, and_true]
                try dsimp only [go_sem, Nat.reduceAdd, Nat.reduceMul, Nat.reduceSub, Nat.reduceBEq, Nat.reduceLeDiff, Nat.reduceEqDiff, ↓dreduceIte, toG, tb195_128, tb195_171, tb195_172, tb195_173, tb195_175, conBorn, conLast, conLives, conRise, conTwin]
                try simp (disch := first | omega | (simp only [List.length_set, List.length_append, List.length_cons, List.length_nil, List.length_replicate]; omega)) only [guardP_T, guardP_pos, iteN, rd_set, List.set_set, List.length_set, eta_fact, eta_rumor, eta_doubt, eta_item, eta_rec, eta_due, look, look0, rd_toNat, wrap64, Int.toNat_natCast, Nat.zero_add, List.take_length, List.drop_zero, and_self, setB_len, true_and, and_true]
                with_reducible refine hR _ ?_)
           clear hR R)
        | (with_reducible refine kon_g_run ?_ ?_
           · dsimp only [nth] <;> with_reducible rfl)
        | (with_reducible refine kon_g_skip ?_ ?_
           · dsimp only [nth, not_t', not_f'] <;> with_reducible rfl
           dsimp only [go_sem])
        | (with_reducible refine kon_g_undef ?_ ?_
           · dsimp only [nth] <;> with_reducible rfl
           dsimp only [go_sem])
        | (with_reducible refine kon_g fun R hR => ?_
           dsimp only [go_sem, Nat.reduceAdd, Nat.reduceMul, Nat.reduceSub, Nat.reduceBEq, Nat.reduceLeDiff, Nat.reduceEqDiff, ↓dreduceIte, toG, tb195_128, tb195_171, tb195_172, tb195_173, tb195_175, conBorn, conLast, conLives, conRise, conTwin]
           split <;> (rename_i hb; with_reducible refine hR _ ?_; clear hR R; try simp only [hb]; try simp only [decide_eq_true_eq, decide_eq_false_iff_not, beq_iff_eq, beq_eq_false_iff_ne, bne_iff_ne, bne_eq_false_iff_eq, Bool.not_eq_true, Bool.not_eq_false, Bool.not_eq_eq_eq_not, Bool.not_true, Bool.not_false, ne_eq, Int.not_lt, Int.not_le, eq_self, not_true_eq_false, not_false_eq_true, decide_true, decide_false, Bool.and_eq_true, Bool.or_eq_true, Bool.and_eq_false_iff, Bool.or_eq_false_iff, gt_iff_lt, ge_iff_le, Bool.false_eq_true, Bool.true_eq_false, reduceCtorEq, or_false, false_or, or_true, true_or, false_and, and_false] at hb; try (exfalso; omega)))
        | (with_reducible refine kon_cond fun R1 R2 h1 h2 => ?_
           dsimp only [go_sem]
           first
             | (with_reducible refine h1 ?_; clear h1 h2 R1 R2)
             | (with_reducible refine h2 ?_; clear h1 h2 R1 R2)
             | ((split <;> rename_i hb <;> first
                 | (with_reducible refine h1 ?_; clear h1 h2 R1 R2; try simp only [hb])
                 | (with_reducible refine h2 ?_; clear h1 h2 R1 R2; try simp only [hb])) <;> (try simp only [decide_eq_true_eq, decide_eq_false_iff_not, beq_iff_eq, beq_eq_false_iff_ne, bne_iff_ne, bne_eq_false_iff_eq, Bool.not_eq_true, Bool.not_eq_false, Bool.not_eq_eq_eq_not, Bool.not_true, Bool.not_false, ne_eq, Int.not_lt, Int.not_le, eq_self, not_true_eq_false, not_false_eq_true, decide_true, decide_false, Bool.and_eq_true, Bool.or_eq_true, Bool.and_eq_false_iff, Bool.or_eq_false_iff, gt_iff_lt, ge_iff_le, Bool.false_eq_true, Bool.true_eq_false, reduceCtorEq, or_false, false_or, or_true, true_or, false_and, and_false] at hb; try (exfalso; omega))))
      all_goals first
        | (dsimp only [kon]
           with_reducible refine hQ _ _ _ ?_
           dsimp only [kon, endQ, af195, conShownS, go_sem, Nat.reduceAdd, Nat.reduceMul, Nat.reduceSub, Nat.reduceBEq, Nat.reduceLeDiff, Nat.reduceEqDiff, ↓dreduceIte, toG, tb195_128, tb195_171, tb195_172, tb195_173, tb195_175, conBorn, conLast, conLives, conRise, conTwin]
           try simp (disch := first | omega | (simp only [List.length_set, List.length_append, List.length_cons, List.length_nil, List.length_replicate]; omega)) only [guardP_T, guardP_pos, iteN, rd_set, List.set_set, List.length_set, eta_fact, eta_rumor, eta_doubt, eta_item, eta_rec, eta_due, look, look0, rd_toNat, wrap64, Int.toNat_natCast, Nat.zero_add, List.take_length, List.drop_zero, and_self, setB_len, true_and, and_true]
           try dsimp only [go_sem, Nat.reduceAdd, Nat.reduceMul, Nat.reduceSub, Nat.reduceBEq, Nat.reduceLeDiff, Nat.reduceEqDiff, ↓dreduceIte, toG, tb195_128, tb195_171, tb195_172, tb195_173, tb195_175, conBorn, conLast, conLives, conRise, conTwin])
        | skip
      all_goals try first
        | omega
        | (simp; done)
        | (simp; omega)
      all_goals first
        | (subst_vars; simp_all [shownS]; done)
        | (simp_all [shownS]; done)
    · simp at h'

end Go.Proofs.Ytnghlmogcbmlfaa
