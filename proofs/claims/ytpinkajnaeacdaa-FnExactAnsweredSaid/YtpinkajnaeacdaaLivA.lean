/- Who lives, and how many mails came. -/
import Derived.Test.YtpinkajnaeacdaaRecsC
namespace Go.Proofs.Ytpinkajnaeacdaa
set_option linter.unusedVariables false
set_option linter.unusedSimpArgs false
set_option linter.unnecessarySimpa false

def livGo (l : List Rec) : Nat → List Int
  | 0 => []
  | k + 1 => livGo l k ++ (if livesB l l.length (k + 1) then [((k : Int) + 1)] else [])
def livN (l : List Rec) : List Int := if recsOk l then livGo l 6 else []

theorem livGo_length (l : List Rec) (k : Nat) : (livGo l k).length ≤ k := by
  induction k with
  | zero => simp [livGo]
  | succ k ih =>
    simp only [livGo, List.length_append]
    split <;> simp <;> omega

theorem livGo_step {l : List Rec} {n : Int} (h : 1 ≤ n) : livGo l (n + 1 - 1).toNat = livGo l (n - 1).toNat ++ (if livesB l l.length n then [n] else []) := by
  rw [show (n + 1 - 1).toNat = (n - 1).toNat + 1 by omega, livGo, show (((n - 1).toNat : Nat) : Int) + 1 = n by omega]

def conLiving : Con := ⟨[.imm .rcd], .own .int, fun as => match as with
  | [.sl .rcd l] => some (.own .int (livN l), [])
  | _ => none⟩

def ansN (l : List Rec) : Nat → Int
  | 0 => 0
  | k + 1 => ansN l k + if (rd l k).kind = 3 ∧ l.any (gotP (rd l k).a) = true then 1 else 0

theorem ansN_bd (l : List Rec) (k : Nat) : 0 ≤ ansN l k ∧ ansN l k ≤ k := by
  induction k with
  | zero => simp [ansN]
  | succ k ih =>
    simp only [ansN]
    split <;> omega

theorem ansN_step {l : List Rec} {n : Int} (h : 0 ≤ n) : ansN l (n + 1).toNat = ansN l n.toNat + if (rd l n).kind = 3 ∧ l.any (gotP (rd l n).a) = true then 1 else 0 := by
  rw [succ_toNat h, ansN, show ((n.toNat : Nat) : Int) = n by omega]

theorem ansN_no {l : List Rec} {n m : Int} (hm : m = ansN l n.toNat) (h : 0 ≤ n) (g : (rd l n).kind = 3 → ∀ x, x ∈ l → gotP (rd l n).a x = false) : m = ansN l (n + 1).toNat := by
  rw [ansN_step h, hm, if_neg]
  · omega
  · rintro ⟨h1, h2⟩
    rw [List.any_eq_true] at h2
    obtain ⟨x, hx, h3⟩ := h2
    rw [g h1 x hx] at h3
    exact absurd h3 (by decide)

theorem recsOk_len {l : List Rec} (h : recsOk l = true) : l.length ≤ 400 := by
  simp only [recsOk, Bool.and_eq_true, decide_eq_true_eq] at h
  exact h.1

def conAns : Con := ⟨[.imm .rcd], .v, fun as => match as with
  | [.sl .rcd l] => some (.int .i64 (if recsOk l then ansN l l.length else -1), [])
  | _ => none⟩

def tb28 : Tab := fun f => match f with
  | 55 => some conRecsOk
  | 70 => some conLives
  | _ => none

theorem tb28_55 : tb28 55 = some conRecsOk := rfl
theorem tb28_70 : tb28 70 = some conLives := rfl

-- loop.example/g00678/impl.Living hows []
def lp28_0 : AC := .seq (.seq (.reg [⟨some 6, .mv (.t 4), none⟩,
        ⟨some 7, .bin .leq (.t 6) (.i 6), none⟩])
      (.cond (.t 7)
        (.skip)
        (.exit 0)))
      (.seq (.block 1 (.seq (.reg [⟨some 10, .mv (.t 0), none⟩,
          ⟨some 11, .call 55 [(.t 10)], none⟩,
          ⟨some 12, .mv (.t 11), none⟩,
          ⟨some 13, .mv (.t 0), some (12, true)⟩,
          ⟨some 14, .mv (.t 0), some (12, true)⟩,
          ⟨some 15, .len (.t 14), some (12, true)⟩,
          ⟨some 16, .mv (.t 4), some (12, true)⟩,
          ⟨some 17, .call 70 [(.t 13), (.t 15), (.t 16)], some (12, true)⟩,
          ⟨some 18, .pick (.t 12) (.t 17) (.b false), none⟩])
        (.cond (.t 18)
          (.reg [⟨some 19, .mv (.t 3), none⟩,
            ⟨some 20, .mv (.t 4), none⟩,
            ⟨some 21, .slit .int [(.t 20)], none⟩,
            ⟨some 22, .app .int (.t 19) (.t 21), none⟩,
            ⟨some 3, .mv (.t 22), none⟩])
          (.skip))))
      (.reg [⟨some 8, .mv (.t 4), none⟩,
        ⟨some 9, .bin .add (.t 8) (.i 1), none⟩,
        ⟨some 4, .mv (.t 9), none⟩]))
def af28 : AF := ⟨24, [.t 2],
  .seq (.reg [⟨some 2, .mv (.c (.nil)), none⟩])
  (.seq (.reg [⟨some 5, .slit .int [], none⟩,
    ⟨some 3, .mv (.t 5), none⟩])
  (.seq (.seq (.reg [⟨some 4, .mv (.i 1), none⟩])
  (.block 0 (.loop lp28_0)))
  (.seq (.reg [⟨some 23, .mv (.t 3), none⟩,
    ⟨some 2, .mv (.t 23), none⟩])
  (.ret))))⟩

set_option maxHeartbeats 4000000 in
theorem does28 (as : List AV) (hok : ok 64 as) : Does tb28 af28 conLiving as := by
  cases h : (conLiving).run as with
  | none => exact does_none h
  | some out =>
    have h' := h
    simp only [conLiving] at h'
    split at h'
    · rename_i l
      simp only [ok] at hok
      obtain ⟨⟨hlen, _⟩, _⟩ := hok
      simp only [Option.some.injEq] at h'
      subst h'
      have hmo : (most : Int) = 1099511627776 := rfl
      have hml : (maxLen : Int) = 9223372036854775807 := rfl
      with_reducible refine does_by h fun Q hQ => ?_
      clear h
      dsimp only [af28, conLiving, go_sem, Nat.reduceAdd, Nat.reduceMul, Nat.reduceSub, Nat.reduceBEq, Nat.reduceLeDiff, Nat.reduceEqDiff, ↓dreduceIte, toG, tb28_55, tb28_70, conLives, conRecsOk]
      repeat' first
        | with_reducible refine kon_seq ?_
        | with_reducible refine kon_nil ?_
        | with_reducible refine kon_skip ?_
        | with_reducible refine kon_block ?_
        | with_reducible refine kon_ret ?_
        | with_reducible refine kon_exit ?_
        | with_reducible refine kon_past_ret ?_
        | with_reducible refine kon_past_exit ?_
        | with_reducible refine kon_blk_ret ?_
        | with_reducible refine kon_blk_end ?_
        | with_reducible refine kon_blk_exit ?_
        | (with_reducible refine kon_blk_past ?_ ?_
           · decide)
        | with_reducible refine loop_exit ?_
        | with_reducible refine loop_ret ?_
        | with_reducible refine mid_exit ?_
        | with_reducible refine mid_ret ?_
        | (with_reducible refine kon_bin fun R hR => ?_
           dsimp only [go_sem, Nat.reduceAdd, Nat.reduceMul, Nat.reduceSub, Nat.reduceBEq, Nat.reduceLeDiff, Nat.reduceEqDiff, ↓dreduceIte, toG, tb28_55, tb28_70, conLives, conRecsOk]
           try simp (disch := first | omega | (simp only [List.length_set, List.length_append, List.length_cons, List.length_nil, List.length_replicate]; omega)) only [guardP_T, guardP_pos, iteN, rd_set, List.set_set, List.length_set, eta_fact, eta_rumor, eta_doubt, eta_item, eta_rec, eta_due, look, look0, rd_toNat, wrap64, Int.toNat_natCast, Nat.zero_add, List.take_length, List.drop_zero, and_self, setB_len, true_and, and_true]
           with_reducible refine hR _ ?_
           clear hR R)
        | (with_reducible refine kon_conv fun R hR => ?_
           dsimp only [go_sem, Nat.reduceAdd, Nat.reduceMul, Nat.reduceSub, Nat.reduceBEq, Nat.reduceLeDiff, Nat.reduceEqDiff, ↓dreduceIte, toG, tb28_55, tb28_70, conLives, conRecsOk]
           try simp (disch := first | omega | (simp only [List.length_set, List.length_append, List.length_cons, List.length_nil, List.length_replicate]; omega)) only [guardP_T, guardP_pos, iteN, rd_set, List.set_set, List.length_set, eta_fact, eta_rumor, eta_doubt, eta_item, eta_rec, eta_due, look, look0, rd_toNat, wrap64, Int.toNat_natCast, Nat.zero_add, List.take_length, List.drop_zero, and_self, setB_len, true_and, and_true]
           with_reducible refine hR _ ?_
           clear hR R)
        | (with_reducible refine kon_ins fun R hR => ?_
           dsimp only [go_sem, Nat.reduceAdd, Nat.reduceMul, Nat.reduceSub, Nat.reduceBEq, Nat.reduceLeDiff, Nat.reduceEqDiff, ↓dreduceIte, toG, tb28_55, tb28_70, conLives, conRecsOk]
           first
             | with_reducible refine hR _ ?_
             | (simp (disch := first | omega | (simp only [List.length_set, List.length_append, List.length_cons, List.length_nil, List.length_replicate]; omega)) only [guardP_T, guardP_pos, iteN, rd_set, List.set_set, List.length_set, eta_fact, eta_rumor, eta_doubt, eta_item, eta_rec, eta_due, look, look0, rd_toNat, wrap64, Int.toNat_natCast, Nat.zero_add, List.take_length, List.drop_zero, and_self, setB_len, true_and, and_true]
                try dsimp only [go_sem, Nat.reduceAdd, Nat.reduceMul, Nat.reduceSub, Nat.reduceBEq, Nat.reduceLeDiff, Nat.reduceEqDiff, ↓dreduceIte, toG, tb28_55, tb28_70, conLives, conRecsOk]
                try simp (disch := first | omega | (simp only [List.length_set, List.length_append, List.length_cons, List.length_nil, List.length_replicate]; omega)) only [guardP_T, guardP_pos, iteN, rd_set, List.set_set, List.length_set, eta_fact, eta_rumor, eta_doubt, eta_item, eta_rec, eta_due, look, look0, rd_toNat, wrap64, Int.toNat_natCast, Nat.zero_add, List.take_length, List.drop_zero, and_self, setB_len, true_and, and_true]
                with_reducible refine hR _ ?_)
           clear hR R)
        | (with_reducible refine kon_g_run ?_ ?_
           · dsimp only [nth] <;> with_reducible rfl)
        | (with_reducible refine kon_g_skip ?_ ?_
           · dsimp only [nth, not_t', not_f'] <;> with_reducible rfl
           dsimp only [go_sem])
        | (with_reducible refine kon_g_undef ?_ ?_
           · dsimp only [nth] <;> with_reducible rfl
           dsimp only [go_sem])
        | (with_reducible refine kon_g fun R hR => ?_
           dsimp only [go_sem, Nat.reduceAdd, Nat.reduceMul, Nat.reduceSub, Nat.reduceBEq, Nat.reduceLeDiff, Nat.reduceEqDiff, ↓dreduceIte, toG, tb28_55, tb28_70, conLives, conRecsOk]
           split <;> (rename_i hb; with_reducible refine hR _ ?_; clear hR R; try simp only [hb]; try simp only [decide_eq_true_eq, decide_eq_false_iff_not, beq_iff_eq, beq_eq_false_iff_ne, bne_iff_ne, bne_eq_false_iff_eq, Bool.not_eq_true, Bool.not_eq_false, Bool.not_eq_eq_eq_not, Bool.not_true, Bool.not_false, ne_eq, Int.not_lt, Int.not_le, eq_self, not_true_eq_false, not_false_eq_true, decide_true, decide_false, Bool.and_eq_true, Bool.or_eq_true, Bool.and_eq_false_iff, Bool.or_eq_false_iff, gt_iff_lt, ge_iff_le, Bool.false_eq_true, Bool.true_eq_false, reduceCtorEq, or_false, false_or, or_true, true_or, false_and, and_false] at hb; try (exfalso; omega)))
        | (with_reducible refine kon_cond fun R1 R2 h1 h2 => ?_
           dsimp only [go_sem]
           first
             | (with_reducible refine h1 ?_; clear h1 h2 R1 R2)
             | (with_reducible refine h2 ?_; clear h1 h2 R1 R2)
             | (split <;> rename_i hb <;> first
                 | (with_reducible refine h1 ?_; clear h1 h2 R1 R2; try simp only [hb]; try simp only [decide_eq_true_eq, decide_eq_false_iff_not, beq_iff_eq, beq_eq_false_iff_ne, bne_iff_ne, bne_eq_false_iff_eq, Bool.not_eq_true, Bool.not_eq_false, Bool.not_eq_eq_eq_not, Bool.not_true, Bool.not_false, ne_eq, Int.not_lt, Int.not_le, eq_self, not_true_eq_false, not_false_eq_true, decide_true, decide_false, Bool.and_eq_true, Bool.or_eq_true, Bool.and_eq_false_iff, Bool.or_eq_false_iff, gt_iff_lt, ge_iff_le, Bool.false_eq_true, Bool.true_eq_false, reduceCtorEq, or_false, false_or, or_true, true_or, false_and, and_false] at hb; try (exfalso; omega))
                 | (with_reducible refine h2 ?_; clear h1 h2 R1 R2; try simp only [hb]; try simp only [decide_eq_true_eq, decide_eq_false_iff_not, beq_iff_eq, beq_eq_false_iff_ne, bne_iff_ne, bne_eq_false_iff_eq, Bool.not_eq_true, Bool.not_eq_false, Bool.not_eq_eq_eq_not, Bool.not_true, Bool.not_false, ne_eq, Int.not_lt, Int.not_le, eq_self, not_true_eq_false, not_false_eq_true, decide_true, decide_false, Bool.and_eq_true, Bool.or_eq_true, Bool.and_eq_false_iff, Bool.or_eq_false_iff, gt_iff_lt, ge_iff_le, Bool.false_eq_true, Bool.true_eq_false, reduceCtorEq, or_false, false_or, or_true, true_or, false_and, and_false] at hb; try (exfalso; omega))))
        | (with_reducible refine kon_rounds (a := lp28_0) [0, 3, 4] (fun n9 s9 => ∃ (n : Int) (o : List Int), ((1 ≤ n) ∧ (n ≤ 7) ∧ (o.length < n) ∧ (o = if recsOk l = true then livGo l (n - 1).toNat else [])) ∧ n9 = (7 - n).toNat ∧ s9.m = [.row 0 .int o] ∧ s9.t = [.sl .rcd l, nth s9.t 1, nth s9.t 2, .ms 0 0 0 o.length, .int .i64 n, nth s9.t 5, nth s9.t 6, nth s9.t 7, nth s9.t 8, nth s9.t 9, nth s9.t 10, nth s9.t 11, nth s9.t 12, nth s9.t 13, nth s9.t 14, nth s9.t 15, nth s9.t 16, nth s9.t 17, nth s9.t 18, nth s9.t 19, nth s9.t 20, nth s9.t 21, nth s9.t 22, nth s9.t 23]) ?_ ?_
           all_goals first
             | (rintro n9 ⟨t9, m9⟩ ⟨n, o, ⟨hI0, hI1, hI2, hI3⟩, rfl, hm9, ht9⟩
                dsimp only at hm9 ht9
                subst hm9
                rw [ht9]
                clear ht9
                dsimp only [lp28_0])
             | (dsimp only [go_sem, Nat.reduceAdd, Nat.reduceMul, Nat.reduceSub, Nat.reduceBEq, Nat.reduceLeDiff, Nat.reduceEqDiff, ↓dreduceIte, toG, tb28_55, tb28_70, conLives, conRecsOk]
                refine ⟨_, _, _, ⟨?_, ?_, ?_, ?_⟩, rfl, rfl, rfl⟩))
        | (with_reducible refine loop_again (keep := [0, 3, 4]) ?_
           dsimp only [go_sem, Nat.reduceAdd, Nat.reduceMul, Nat.reduceSub, Nat.reduceBEq, Nat.reduceLeDiff, Nat.reduceEqDiff, ↓dreduceIte, toG, tb28_55, tb28_70, conLives, conRecsOk]
           refine ⟨_, ?_, _, _, ⟨?_, ?_, ?_, ?_⟩, rfl, rfl, rfl⟩)
      all_goals first
        | (dsimp only [kon]
           with_reducible refine hQ _ _ _ ?_
           dsimp only [kon, endQ, af28, conLiving, go_sem, Nat.reduceAdd, Nat.reduceMul, Nat.reduceSub, Nat.reduceBEq, Nat.reduceLeDiff, Nat.reduceEqDiff, ↓dreduceIte, toG, tb28_55, tb28_70, conLives, conRecsOk]
           try simp (disch := first | omega | (simp only [List.length_set, List.length_append, List.length_cons, List.length_nil, List.length_replicate]; omega)) only [guardP_T, guardP_pos, iteN, rd_set, List.set_set, List.length_set, eta_fact, eta_rumor, eta_doubt, eta_item, eta_rec, eta_due, look, look0, rd_toNat, wrap64, Int.toNat_natCast, Nat.zero_add, List.take_length, List.drop_zero, and_self, setB_len, true_and, and_true]
           try dsimp only [go_sem, Nat.reduceAdd, Nat.reduceMul, Nat.reduceSub, Nat.reduceBEq, Nat.reduceLeDiff, Nat.reduceEqDiff, ↓dreduceIte, toG, tb28_55, tb28_70, conLives, conRecsOk])
        | skip
      all_goals try first
        | omega
        | (simp; done)
        | (simp; omega)
      all_goals first
        | omega
        | (simp [livGo]; done)
        | (simp only [livGo_step (l := l) (n := n) (by omega)]; simp_all; done)
        | (simp only [livN]; simp_all; done)
        | (simp only [livN, hI3]; rw [show (n - 1).toNat = 6 by omega]; done)
    · simp at h'

def tb27 : Tab := fun f => match f with
  | 54 => some conRecsOk
  | 69 => some conLives
  | _ => none

theorem tb27_54 : tb27 54 = some conRecsOk := rfl
theorem tb27_69 : tb27 69 = some conLives := rfl

-- loop.example/g00678/spec.Living hows []
def lp27_0 : AC := .seq (.seq (.reg [⟨some 6, .mv (.t 4), none⟩,
        ⟨some 7, .bin .leq (.t 6) (.i 6), none⟩,
        ⟨some 8, .mv (.t 7), none⟩,
        ⟨some 9, .mv (.t 0), some (8, true)⟩,
        ⟨some 10, .call 54 [(.t 9)], some (8, true)⟩,
        ⟨some 11, .pick (.t 8) (.t 10) (.b false), none⟩])
      (.cond (.t 11)
        (.skip)
        (.exit 0)))
      (.seq (.block 1 (.seq (.reg [⟨some 14, .mv (.t 0), none⟩,
          ⟨some 15, .mv (.t 0), none⟩,
          ⟨some 16, .len (.t 15), none⟩,
          ⟨some 17, .mv (.t 4), none⟩,
          ⟨some 18, .call 69 [(.t 14), (.t 16), (.t 17)], none⟩])
        (.cond (.t 18)
          (.reg [⟨some 19, .mv (.t 3), none⟩,
            ⟨some 20, .mv (.t 4), none⟩,
            ⟨some 21, .slit .int [(.t 20)], none⟩,
            ⟨some 22, .app .int (.t 19) (.t 21), none⟩,
            ⟨some 3, .mv (.t 22), none⟩])
          (.skip))))
      (.reg [⟨some 12, .mv (.t 4), none⟩,
        ⟨some 13, .bin .add (.t 12) (.i 1), none⟩,
        ⟨some 4, .mv (.t 13), none⟩]))
def af27 : AF := ⟨24, [.t 2],
  .seq (.reg [⟨some 2, .mv (.c (.nil)), none⟩])
  (.seq (.reg [⟨some 5, .slit .int [], none⟩,
    ⟨some 3, .mv (.t 5), none⟩])
  (.seq (.seq (.reg [⟨some 4, .mv (.i 1), none⟩])
  (.block 0 (.loop lp27_0)))
  (.seq (.reg [⟨some 23, .mv (.t 3), none⟩,
    ⟨some 2, .mv (.t 23), none⟩])
  (.ret))))⟩

set_option maxHeartbeats 4000000 in
theorem does27 (as : List AV) (hok : ok 64 as) : Does tb27 af27 conLiving as := by
  cases h : (conLiving).run as with
  | none => exact does_none h
  | some out =>
    have h' := h
    simp only [conLiving] at h'
    split at h'
    · rename_i l
      simp only [ok] at hok
      obtain ⟨⟨hlen, _⟩, _⟩ := hok
      simp only [Option.some.injEq] at h'
      subst h'
      have hmo : (most : Int) = 1099511627776 := rfl
      have hml : (maxLen : Int) = 9223372036854775807 := rfl
      with_reducible refine does_by h fun Q hQ => ?_
      clear h
      dsimp only [af27, conLiving, go_sem, Nat.reduceAdd, Nat.reduceMul, Nat.reduceSub, Nat.reduceBEq, Nat.reduceLeDiff, Nat.reduceEqDiff, ↓dreduceIte, toG, tb27_54, tb27_69, conLives, conRecsOk]
      repeat' first
        | with_reducible refine kon_seq ?_
        | with_reducible refine kon_nil ?_
        | with_reducible refine kon_skip ?_
        | with_reducible refine kon_block ?_
        | with_reducible refine kon_ret ?_
        | with_reducible refine kon_exit ?_
        | with_reducible refine kon_past_ret ?_
        | with_reducible refine kon_past_exit ?_
        | with_reducible refine kon_blk_ret ?_
        | with_reducible refine kon_blk_end ?_
        | with_reducible refine kon_blk_exit ?_
        | (with_reducible refine kon_blk_past ?_ ?_
           · decide)
        | with_reducible refine loop_exit ?_
        | with_reducible refine loop_ret ?_
        | with_reducible refine mid_exit ?_
        | with_reducible refine mid_ret ?_
        | (with_reducible refine kon_bin fun R hR => ?_
           dsimp only [go_sem, Nat.reduceAdd, Nat.reduceMul, Nat.reduceSub, Nat.reduceBEq, Nat.reduceLeDiff, Nat.reduceEqDiff, ↓dreduceIte, toG, tb27_54, tb27_69, conLives, conRecsOk]
           try simp (disch := first | omega | (simp only [List.length_set, List.length_append, List.length_cons, List.length_nil, List.length_replicate]; omega)) only [guardP_T, guardP_pos, iteN, rd_set, List.set_set, List.length_set, eta_fact, eta_rumor, eta_doubt, eta_item, eta_rec, eta_due, look, look0, rd_toNat, wrap64, Int.toNat_natCast, Nat.zero_add, List.take_length, List.drop_zero, and_self, setB_len, true_and, and_true]
           with_reducible refine hR _ ?_
           clear hR R)
        | (with_reducible refine kon_conv fun R hR => ?_
           dsimp only [go_sem, Nat.reduceAdd, Nat.reduceMul, Nat.reduceSub, Nat.reduceBEq, Nat.reduceLeDiff, Nat.reduceEqDiff, ↓dreduceIte, toG, tb27_54, tb27_69, conLives, conRecsOk]
           try simp (disch := first | omega | (simp only [List.length_set, List.length_append, List.length_cons, List.length_nil, List.length_replicate]; omega)) only [guardP_T, guardP_pos, iteN, rd_set, List.set_set, List.length_set, eta_fact, eta_rumor, eta_doubt, eta_item, eta_rec, eta_due, look, look0, rd_toNat, wrap64, Int.toNat_natCast, Nat.zero_add, List.take_length, List.drop_zero, and_self, setB_len, true_and, and_true]
           with_reducible refine hR _ ?_
           clear hR R)
        | (with_reducible refine kon_ins fun R hR => ?_
           dsimp only [go_sem, Nat.reduceAdd, Nat.reduceMul, Nat.reduceSub, Nat.reduceBEq, Nat.reduceLeDiff, Nat.reduceEqDiff, ↓dreduceIte, toG, tb27_54, tb27_69, conLives, conRecsOk]
           first
             | with_reducible refine hR _ ?_
             | (simp (disch := first | omega | (simp only [List.length_set, List.length_append, List.length_cons, List.length_nil, List.length_replicate]; omega)) only [guardP_T, guardP_pos, iteN, rd_set, List.set_set, List.length_set, eta_fact, eta_rumor, eta_doubt, eta_item, eta_rec, eta_due, look, look0, rd_toNat, wrap64, Int.toNat_natCast, Nat.zero_add, List.take_length, List.drop_zero, and_self, setB_len, true_and, and_true]
                try dsimp only [go_sem, Nat.reduceAdd, Nat.reduceMul, Nat.reduceSub, Nat.reduceBEq, Nat.reduceLeDiff, Nat.reduceEqDiff, ↓dreduceIte, toG, tb27_54, tb27_69, conLives, conRecsOk]
                try simp (disch := first | omega | (simp only [List.length_set, List.length_append, List.length_cons, List.length_nil, List.length_replicate]; omega)) only [guardP_T, guardP_pos, iteN, rd_set, List.set_set, List.length_set, eta_fact, eta_rumor, eta_doubt, eta_item, eta_rec, eta_due, look, look0, rd_toNat, wrap64, Int.toNat_natCast, Nat.zero_add, List.take_length, List.drop_zero, and_self, setB_len, true_and, and_true]
                with_reducible refine hR _ ?_)
           clear hR R)
        | (with_reducible refine kon_g_run ?_ ?_
           · dsimp only [nth] <;> with_reducible rfl)
        | (with_reducible refine kon_g_skip ?_ ?_
           · dsimp only [nth, not_t', not_f'] <;> with_reducible rfl
           dsimp only [go_sem])
        | (with_reducible refine kon_g_undef ?_ ?_
           · dsimp only [nth] <;> with_reducible rfl
           dsimp only [go_sem])
        | (with_reducible refine kon_g fun R hR => ?_
           dsimp only [go_sem, Nat.reduceAdd, Nat.reduceMul, Nat.reduceSub, Nat.reduceBEq, Nat.reduceLeDiff, Nat.reduceEqDiff, ↓dreduceIte, toG, tb27_54, tb27_69, conLives, conRecsOk]
           split <;> (rename_i hb; with_reducible refine hR _ ?_; clear hR R; try simp only [hb]; try simp only [decide_eq_true_eq, decide_eq_false_iff_not, beq_iff_eq, beq_eq_false_iff_ne, bne_iff_ne, bne_eq_false_iff_eq, Bool.not_eq_true, Bool.not_eq_false, Bool.not_eq_eq_eq_not, Bool.not_true, Bool.not_false, ne_eq, Int.not_lt, Int.not_le, eq_self, not_true_eq_false, not_false_eq_true, decide_true, decide_false, Bool.and_eq_true, Bool.or_eq_true, Bool.and_eq_false_iff, Bool.or_eq_false_iff, gt_iff_lt, ge_iff_le, Bool.false_eq_true, Bool.true_eq_false, reduceCtorEq, or_false, false_or, or_true, true_or, false_and, and_false] at hb; try (exfalso; omega)))
        | (with_reducible refine kon_cond fun R1 R2 h1 h2 => ?_
           dsimp only [go_sem]
           first
             | (with_reducible refine h1 ?_; clear h1 h2 R1 R2)
             | (with_reducible refine h2 ?_; clear h1 h2 R1 R2)
             | (split <;> rename_i hb <;> first
                 | (with_reducible refine h1 ?_; clear h1 h2 R1 R2; try simp only [hb]; try simp only [decide_eq_true_eq, decide_eq_false_iff_not, beq_iff_eq, beq_eq_false_iff_ne, bne_iff_ne, bne_eq_false_iff_eq, Bool.not_eq_true, Bool.not_eq_false, Bool.not_eq_eq_eq_not, Bool.not_true, Bool.not_false, ne_eq, Int.not_lt, Int.not_le, eq_self, not_true_eq_false, not_false_eq_true, decide_true, decide_false, Bool.and_eq_true, Bool.or_eq_true, Bool.and_eq_false_iff, Bool.or_eq_false_iff, gt_iff_lt, ge_iff_le, Bool.false_eq_true, Bool.true_eq_false, reduceCtorEq, or_false, false_or, or_true, true_or, false_and, and_false] at hb; try (exfalso; omega))
                 | (with_reducible refine h2 ?_; clear h1 h2 R1 R2; try simp only [hb]; try simp only [decide_eq_true_eq, decide_eq_false_iff_not, beq_iff_eq, beq_eq_false_iff_ne, bne_iff_ne, bne_eq_false_iff_eq, Bool.not_eq_true, Bool.not_eq_false, Bool.not_eq_eq_eq_not, Bool.not_true, Bool.not_false, ne_eq, Int.not_lt, Int.not_le, eq_self, not_true_eq_false, not_false_eq_true, decide_true, decide_false, Bool.and_eq_true, Bool.or_eq_true, Bool.and_eq_false_iff, Bool.or_eq_false_iff, gt_iff_lt, ge_iff_le, Bool.false_eq_true, Bool.true_eq_false, reduceCtorEq, or_false, false_or, or_true, true_or, false_and, and_false] at hb; try (exfalso; omega))))
        | (with_reducible refine kon_rounds (a := lp27_0) [0, 3, 4] (fun n9 s9 => ∃ (n : Int) (o : List Int), ((1 ≤ n) ∧ (n ≤ 7) ∧ (o.length < n) ∧ (o = if recsOk l = true then livGo l (n - 1).toNat else [])) ∧ n9 = (7 - n).toNat ∧ s9.m = [.row 0 .int o] ∧ s9.t = [.sl .rcd l, nth s9.t 1, nth s9.t 2, .ms 0 0 0 o.length, .int .i64 n, nth s9.t 5, nth s9.t 6, nth s9.t 7, nth s9.t 8, nth s9.t 9, nth s9.t 10, nth s9.t 11, nth s9.t 12, nth s9.t 13, nth s9.t 14, nth s9.t 15, nth s9.t 16, nth s9.t 17, nth s9.t 18, nth s9.t 19, nth s9.t 20, nth s9.t 21, nth s9.t 22, nth s9.t 23]) ?_ ?_
           all_goals first
             | (rintro n9 ⟨t9, m9⟩ ⟨n, o, ⟨hI0, hI1, hI2, hI3⟩, rfl, hm9, ht9⟩
                dsimp only at hm9 ht9
                subst hm9
                rw [ht9]
                clear ht9
                dsimp only [lp27_0])
             | (dsimp only [go_sem, Nat.reduceAdd, Nat.reduceMul, Nat.reduceSub, Nat.reduceBEq, Nat.reduceLeDiff, Nat.reduceEqDiff, ↓dreduceIte, toG, tb27_54, tb27_69, conLives, conRecsOk]
                refine ⟨_, _, _, ⟨?_, ?_, ?_, ?_⟩, rfl, rfl, rfl⟩))
        | (with_reducible refine loop_again (keep := [0, 3, 4]) ?_
           dsimp only [go_sem, Nat.reduceAdd, Nat.reduceMul, Nat.reduceSub, Nat.reduceBEq, Nat.reduceLeDiff, Nat.reduceEqDiff, ↓dreduceIte, toG, tb27_54, tb27_69, conLives, conRecsOk]
           refine ⟨_, ?_, _, _, ⟨?_, ?_, ?_, ?_⟩, rfl, rfl, rfl⟩)
      all_goals first
        | (dsimp only [kon]
           with_reducible refine hQ _ _ _ ?_
           dsimp only [kon, endQ, af27, conLiving, go_sem, Nat.reduceAdd, Nat.reduceMul, Nat.reduceSub, Nat.reduceBEq, Nat.reduceLeDiff, Nat.reduceEqDiff, ↓dreduceIte, toG, tb27_54, tb27_69, conLives, conRecsOk]
           try simp (disch := first | omega | (simp only [List.length_set, List.length_append, List.length_cons, List.length_nil, List.length_replicate]; omega)) only [guardP_T, guardP_pos, iteN, rd_set, List.set_set, List.length_set, eta_fact, eta_rumor, eta_doubt, eta_item, eta_rec, eta_due, look, look0, rd_toNat, wrap64, Int.toNat_natCast, Nat.zero_add, List.take_length, List.drop_zero, and_self, setB_len, true_and, and_true]
           try dsimp only [go_sem, Nat.reduceAdd, Nat.reduceMul, Nat.reduceSub, Nat.reduceBEq, Nat.reduceLeDiff, Nat.reduceEqDiff, ↓dreduceIte, toG, tb27_54, tb27_69, conLives, conRecsOk])
        | skip
      all_goals try first
        | omega
        | (simp; done)
        | (simp; omega)
      all_goals first
        | omega
        | (simp [livGo]; done)
        | (simp only [livGo_step (l := l) (n := n) (by omega)]; simp_all; done)
        | (simp only [livN]; simp_all; done)
        | (simp only [livN, hI3]; rw [show (n - 1).toNat = 6 by omega]; done)
    · simp at h'

def tb18 : Tab := fun f => match f with
  | 55 => some conRecsOk
  | 56 => some conContainsR
  | _ => none

theorem tb18_55 : tb18 55 = some conRecsOk := rfl
theorem tb18_56 : tb18 56 = some conContainsR := rfl

-- loop.example/g00678/impl.Answered hows []
def lp18_0 : AC := .seq (.reg [⟨some 12, .bin .lss (.t 11) (.t 10), none⟩])
      (.seq (.cond (.t 12)
        (.skip)
        (.exit 0))
      (.seq (.block 1 (.seq (.reg [⟨some 13, .ia .rcd (.t 9) (.t 11), none⟩,
          ⟨some 14, .ld true 6 (.t 13), none⟩,
          ⟨some 5, .box (.c (.agg [.int .i64 0, .int .i64 0, .int .i64 0, .int .i64 0, .int .i64 0, .int .i64 0])), none⟩,
          ⟨none, .st 6 (.t 5) (.t 14), none⟩])
        (.seq (.reg [⟨some 15, .fa 2 (.t 5), none⟩,
          ⟨some 16, .ld false 1 (.t 15), none⟩,
          ⟨some 17, .bin .eql (.t 16) (.i 3), none⟩,
          ⟨some 18, .mv (.t 17), none⟩,
          ⟨some 19, .mv (.t 0), some (18, true)⟩,
          ⟨some 20, .mf 57 [(.t 5)], some (18, true)⟩,
          ⟨some 21, .call 56 [(.t 19), (.t 20)], some (18, true)⟩,
          ⟨some 22, .pick (.t 18) (.t 21) (.b false), none⟩])
        (.cond (.t 22)
          (.reg [⟨some 23, .mv (.t 3), none⟩,
            ⟨some 24, .bin .add (.t 23) (.i 1), none⟩,
            ⟨some 3, .mv (.t 24), none⟩])
          (.skip)))))
      (.reg [⟨some 25, .bin .add (.t 11) (.i 1), none⟩,
        ⟨some 11, .mv (.t 25), none⟩])))
def af18 : AF := ⟨27, [.t 2],
  .seq (.reg [⟨some 2, .mv (.i 0), none⟩])
  (.seq (.seq (.reg [⟨some 6, .mv (.t 0), none⟩,
    ⟨some 7, .call 55 [(.t 6)], none⟩,
    ⟨some 8, .un .not (.t 7), none⟩])
  (.cond (.t 8)
    (.seq (.reg [⟨some 2, .mv (.i (-1)), none⟩])
    (.ret))
    (.skip)))
  (.seq (.reg [⟨some 3, .mv (.i 0), none⟩])
  (.seq (.seq (.reg [⟨some 9, .mv (.t 0), none⟩,
    ⟨some 10, .len (.t 9), none⟩,
    ⟨some 11, .mv (.i 0), none⟩])
  (.block 0 (.loop lp18_0)))
  (.seq (.reg [⟨some 26, .mv (.t 3), none⟩,
    ⟨some 2, .mv (.t 26), none⟩])
  (.ret)))))⟩

set_option maxHeartbeats 4000000 in
theorem does18 (as : List AV) (hok : ok 64 as) : Does tb18 af18 conAns as := by
  cases h : (conAns).run as with
  | none => exact does_none h
  | some out =>
    have h' := h
    simp only [conAns] at h'
    split at h'
    · rename_i l
      simp only [ok] at hok
      obtain ⟨⟨hlen, _⟩, _⟩ := hok
      simp only [Option.some.injEq] at h'
      subst h'
      have hmo : (most : Int) = 1099511627776 := rfl
      have hml : (maxLen : Int) = 9223372036854775807 := rfl
      with_reducible refine does_by h fun Q hQ => ?_
      clear h
      dsimp only [af18, conAns, go_sem, Nat.reduceAdd, Nat.reduceMul, Nat.reduceSub, Nat.reduceBEq, Nat.reduceLeDiff, Nat.reduceEqDiff, ↓dreduceIte, toG, semR_93, semR_57, semR_142, semR_109, semR_144, tb18_55, tb18_56, conContainsR, conRecsOk]
      repeat' first
        | with_reducible refine kon_seq ?_
        | with_reducible refine kon_nil ?_
        | with_reducible refine kon_skip ?_
        | with_reducible refine kon_block ?_
        | with_reducible refine kon_ret ?_
        | with_reducible refine kon_exit ?_
        | with_reducible refine kon_past_ret ?_
        | with_reducible refine kon_past_exit ?_
        | with_reducible refine kon_blk_ret ?_
        | with_reducible refine kon_blk_end ?_
        | with_reducible refine kon_blk_exit ?_
        | (with_reducible refine kon_blk_past ?_ ?_
           · decide)
        | with_reducible refine loop_exit ?_
        | with_reducible refine loop_ret ?_
        | with_reducible refine mid_exit ?_
        | with_reducible refine mid_ret ?_
        | (with_reducible refine kon_bin fun R hR => ?_
           dsimp only [go_sem, Nat.reduceAdd, Nat.reduceMul, Nat.reduceSub, Nat.reduceBEq, Nat.reduceLeDiff, Nat.reduceEqDiff, ↓dreduceIte, toG, semR_93, semR_57, semR_142, semR_109, semR_144, tb18_55, tb18_56, conContainsR, conRecsOk]
           try simp (disch := first | omega | (simp only [List.length_set, List.length_append, List.length_cons, List.length_nil, List.length_replicate]; omega)) only [guardP_T, guardP_pos, iteN, rd_set, List.set_set, List.length_set, eta_fact, eta_rumor, eta_doubt, eta_item, eta_rec, eta_due, look, look0, rd_toNat, wrap64, Int.toNat_natCast, Nat.zero_add, List.take_length, List.drop_zero, and_self, setB_len, true_and, and_true]
           with_reducible refine hR _ ?_
           clear hR R)
        | (with_reducible refine kon_conv fun R hR => ?_
           dsimp only [go_sem, Nat.reduceAdd, Nat.reduceMul, Nat.reduceSub, Nat.reduceBEq, Nat.reduceLeDiff, Nat.reduceEqDiff, ↓dreduceIte, toG, semR_93, semR_57, semR_142, semR_109, semR_144, tb18_55, tb18_56, conContainsR, conRecsOk]
           try simp (disch := first | omega | (simp only [List.length_set, List.length_append, List.length_cons, List.length_nil, List.length_replicate]; omega)) only [guardP_T, guardP_pos, iteN, rd_set, List.set_set, List.length_set, eta_fact, eta_rumor, eta_doubt, eta_item, eta_rec, eta_due, look, look0, rd_toNat, wrap64, Int.toNat_natCast, Nat.zero_add, List.take_length, List.drop_zero, and_self, setB_len, true_and, and_true]
           with_reducible refine hR _ ?_
           clear hR R)
        | (with_reducible refine kon_ins fun R hR => ?_
           dsimp only [go_sem, Nat.reduceAdd, Nat.reduceMul, Nat.reduceSub, Nat.reduceBEq, Nat.reduceLeDiff, Nat.reduceEqDiff, ↓dreduceIte, toG, semR_93, semR_57, semR_142, semR_109, semR_144, tb18_55, tb18_56, conContainsR, conRecsOk]
           first
             | with_reducible refine hR _ ?_
             | (simp (disch := first | omega | (simp only [List.length_set, List.length_append, List.length_cons, List.length_nil, List.length_replicate]; omega)) only [guardP_T, guardP_pos, iteN, rd_set, List.set_set, List.length_set, eta_fact, eta_rumor, eta_doubt, eta_item, eta_rec, eta_due, look, look0, rd_toNat, wrap64, Int.toNat_natCast, Nat.zero_add, List.take_length, List.drop_zero, and_self, setB_len, true_and, and_true]
                try dsimp only [go_sem, Nat.reduceAdd, Nat.reduceMul, Nat.reduceSub, Nat.reduceBEq, Nat.reduceLeDiff, Nat.reduceEqDiff, ↓dreduceIte, toG, semR_93, semR_57, semR_142, semR_109, semR_144, tb18_55, tb18_56, conContainsR, conRecsOk]
                try simp (disch := first | omega | (simp only [List.length_set, List.length_append, List.length_cons, List.length_nil, List.length_replicate]; omega)) only [guardP_T, guardP_pos, iteN, rd_set, List.set_set, List.length_set, eta_fact, eta_rumor, eta_doubt, eta_item, eta_rec, eta_due, look, look0, rd_toNat, wrap64, Int.toNat_natCast, Nat.zero_add, List.take_length, List.drop_zero, and_self, setB_len, true_and, and_true]
                with_reducible refine hR _ ?_)
           clear hR R)
        | (with_reducible refine kon_g_run ?_ ?_
           · dsimp only [nth] <;> with_reducible rfl)
        | (with_reducible refine kon_g_skip ?_ ?_
           · dsimp only [nth, not_t', not_f'] <;> with_reducible rfl
           dsimp only [go_sem])
        | (with_reducible refine kon_g_undef ?_ ?_
           · dsimp only [nth] <;> with_reducible rfl
           dsimp only [go_sem])
        | (with_reducible refine kon_g fun R hR => ?_
           dsimp only [go_sem, Nat.reduceAdd, Nat.reduceMul, Nat.reduceSub, Nat.reduceBEq, Nat.reduceLeDiff, Nat.reduceEqDiff, ↓dreduceIte, toG, semR_93, semR_57, semR_142, semR_109, semR_144, tb18_55, tb18_56, conContainsR, conRecsOk]
           split <;> (rename_i hb; with_reducible refine hR _ ?_; clear hR R; try simp only [hb]; try simp only [decide_eq_true_eq, decide_eq_false_iff_not, beq_iff_eq, beq_eq_false_iff_ne, bne_iff_ne, bne_eq_false_iff_eq, Bool.not_eq_true, Bool.not_eq_false, Bool.not_eq_eq_eq_not, Bool.not_true, Bool.not_false, ne_eq, Int.not_lt, Int.not_le, eq_self, not_true_eq_false, not_false_eq_true, decide_true, decide_false, Bool.and_eq_true, Bool.or_eq_true, Bool.and_eq_false_iff, Bool.or_eq_false_iff, gt_iff_lt, ge_iff_le, Bool.false_eq_true, Bool.true_eq_false, reduceCtorEq, or_false, false_or, or_true, true_or, false_and, and_false] at hb; try (exfalso; omega)))
        | (with_reducible refine kon_cond fun R1 R2 h1 h2 => ?_
           dsimp only [go_sem]
           first
             | (with_reducible refine h1 ?_; clear h1 h2 R1 R2)
             | (with_reducible refine h2 ?_; clear h1 h2 R1 R2)
             | (split <;> rename_i hb <;> first
                 | (with_reducible refine h1 ?_; clear h1 h2 R1 R2; try simp only [hb]; try simp only [decide_eq_true_eq, decide_eq_false_iff_not, beq_iff_eq, beq_eq_false_iff_ne, bne_iff_ne, bne_eq_false_iff_eq, Bool.not_eq_true, Bool.not_eq_false, Bool.not_eq_eq_eq_not, Bool.not_true, Bool.not_false, ne_eq, Int.not_lt, Int.not_le, eq_self, not_true_eq_false, not_false_eq_true, decide_true, decide_false, Bool.and_eq_true, Bool.or_eq_true, Bool.and_eq_false_iff, Bool.or_eq_false_iff, gt_iff_lt, ge_iff_le, Bool.false_eq_true, Bool.true_eq_false, reduceCtorEq, or_false, false_or, or_true, true_or, false_and, and_false] at hb; try (exfalso; omega))
                 | (with_reducible refine h2 ?_; clear h1 h2 R1 R2; try simp only [hb]; try simp only [decide_eq_true_eq, decide_eq_false_iff_not, beq_iff_eq, beq_eq_false_iff_ne, bne_iff_ne, bne_eq_false_iff_eq, Bool.not_eq_true, Bool.not_eq_false, Bool.not_eq_eq_eq_not, Bool.not_true, Bool.not_false, ne_eq, Int.not_lt, Int.not_le, eq_self, not_true_eq_false, not_false_eq_true, decide_true, decide_false, Bool.and_eq_true, Bool.or_eq_true, Bool.and_eq_false_iff, Bool.or_eq_false_iff, gt_iff_lt, ge_iff_le, Bool.false_eq_true, Bool.true_eq_false, reduceCtorEq, or_false, false_or, or_true, true_or, false_and, and_false] at hb; try (exfalso; omega))))
        | (with_reducible refine kon_rounds (a := lp18_0) [0, 3, 9, 10, 11] (fun n9 s9 => ∃ (i : Int) (n : Int), ((0 ≤ i) ∧ (i ≤ l.length) ∧ (recsOk l = true) ∧ (0 ≤ n) ∧ (n ≤ i) ∧ (n = ansN l i.toNat)) ∧ n9 = (l.length - i).toNat ∧ s9.m = [] ∧ s9.t = [.sl .rcd l, nth s9.t 1, nth s9.t 2, .int .i64 n, nth s9.t 4, nth s9.t 5, nth s9.t 6, nth s9.t 7, nth s9.t 8, .sl .rcd l, .int .i64 l.length, .int .i64 i, nth s9.t 12, nth s9.t 13, nth s9.t 14, nth s9.t 15, nth s9.t 16, nth s9.t 17, nth s9.t 18, nth s9.t 19, nth s9.t 20, nth s9.t 21, nth s9.t 22, nth s9.t 23, nth s9.t 24, nth s9.t 25, nth s9.t 26]) ?_ ?_
           all_goals first
             | (rintro n9 ⟨t9, m9⟩ ⟨i, n, ⟨hI0, hI1, hI2, hI3, hI4, hI5⟩, rfl, hm9, ht9⟩
                dsimp only at hm9 ht9
                subst hm9
                rw [ht9]
                clear ht9
                dsimp only [lp18_0])
             | (dsimp only [go_sem, Nat.reduceAdd, Nat.reduceMul, Nat.reduceSub, Nat.reduceBEq, Nat.reduceLeDiff, Nat.reduceEqDiff, ↓dreduceIte, toG, semR_93, semR_57, semR_142, semR_109, semR_144, tb18_55, tb18_56, conContainsR, conRecsOk]
                refine ⟨_, _, _, ⟨?_, ?_, ?_, ?_, ?_, ?_⟩, rfl, rfl, rfl⟩))
        | (with_reducible refine loop_again (keep := [0, 3, 9, 10, 11]) ?_
           dsimp only [go_sem, Nat.reduceAdd, Nat.reduceMul, Nat.reduceSub, Nat.reduceBEq, Nat.reduceLeDiff, Nat.reduceEqDiff, ↓dreduceIte, toG, semR_93, semR_57, semR_142, semR_109, semR_144, tb18_55, tb18_56, conContainsR, conRecsOk]
           refine ⟨_, ?_, _, _, ⟨?_, ?_, ?_, ?_, ?_, ?_⟩, rfl, rfl, rfl⟩)
      all_goals first
        | (dsimp only [kon]
           with_reducible refine hQ _ _ _ ?_
           dsimp only [kon, endQ, af18, conAns, go_sem, Nat.reduceAdd, Nat.reduceMul, Nat.reduceSub, Nat.reduceBEq, Nat.reduceLeDiff, Nat.reduceEqDiff, ↓dreduceIte, toG, semR_93, semR_57, semR_142, semR_109, semR_144, tb18_55, tb18_56, conContainsR, conRecsOk]
           try simp (disch := first | omega | (simp only [List.length_set, List.length_append, List.length_cons, List.length_nil, List.length_replicate]; omega)) only [guardP_T, guardP_pos, iteN, rd_set, List.set_set, List.length_set, eta_fact, eta_rumor, eta_doubt, eta_item, eta_rec, eta_due, look, look0, rd_toNat, wrap64, Int.toNat_natCast, Nat.zero_add, List.take_length, List.drop_zero, and_self, setB_len, true_and, and_true]
           try dsimp only [go_sem, Nat.reduceAdd, Nat.reduceMul, Nat.reduceSub, Nat.reduceBEq, Nat.reduceLeDiff, Nat.reduceEqDiff, ↓dreduceIte, toG, semR_93, semR_57, semR_142, semR_109, semR_144, tb18_55, tb18_56, conContainsR, conRecsOk])
        | skip
      all_goals try first
        | omega
        | (simp; done)
        | (simp; omega)
      all_goals first
        | omega
        | (simp [ansN]; done)
        | (rw [hI5, show i.toNat = l.length by omega]; simp_all; done)
        | (rw [ansN_step (by omega)]; simp_all; done)
        | (refine ansN_no (by omega) (by omega) (fun h => ?_); first | (exfalso; omega) | (simp_all; done))
        | (simp_all; done)
        | (refine ansN_no hI5 hI0 (fun h => ?_); first | (exfalso; omega) | (simp_all; done))
    · simp at h'

def tb16 : Tab := fun f => match f with
  | 54 => some conRecsOk
  | _ => none

theorem tb16_54 : tb16 54 = some conRecsOk := rfl

-- loop.example/g00678/spec.Answered hows [(11, [.any, .any, .any, .any, .any, .any, .any, .any, .any, .any, .any, .any, .any, .any, .any, .any, .any, .any, .any, .any, .any, .any, .any])]
def lp16_1 : AC := .seq (.seq (.reg [⟨some 16, .mv (.t 6), none⟩,
              ⟨some 17, .mv (.t 0), none⟩,
              ⟨some 18, .len (.t 17), none⟩,
              ⟨some 19, .bin .lss (.t 16) (.t 18), none⟩])
            (.cond (.t 19)
              (.skip)
              (.exit 2)))
            (.seq (.block 3 (.reg [⟨some 22, .mv (.t 5), none⟩,
                ⟨some 23, .mv (.t 22), none⟩,
                ⟨some 24, .mv (.t 0), some (23, false)⟩,
                ⟨some 25, .mv (.t 6), some (23, false)⟩,
                ⟨some 26, .ia .rcd (.t 24) (.t 25), some (23, false)⟩,
                ⟨some 27, .fa 2 (.t 26), some (23, false)⟩,
                ⟨some 28, .ld false 1 (.t 27), some (23, false)⟩,
                ⟨some 29, .bin .eql (.t 28) (.i 4), some (23, false)⟩,
                ⟨some 30, .mv (.t 29), some (23, false)⟩,
                ⟨some 31, .mv (.t 0), some (30, true)⟩,
                ⟨some 32, .mv (.t 6), some (30, true)⟩,
                ⟨some 33, .ia .rcd (.t 31) (.t 32), some (30, true)⟩,
                ⟨some 34, .fa 3 (.t 33), some (30, true)⟩,
                ⟨some 35, .ld false 1 (.t 34), some (30, true)⟩,
                ⟨some 36, .mv (.t 0), some (30, true)⟩,
                ⟨some 37, .mv (.t 4), some (30, true)⟩,
                ⟨some 38, .ia .rcd (.t 36) (.t 37), some (30, true)⟩,
                ⟨some 39, .fa 3 (.t 38), some (30, true)⟩,
                ⟨some 40, .ld false 1 (.t 39), some (30, true)⟩,
                ⟨some 41, .bin .eql (.t 35) (.t 40), some (30, true)⟩,
                ⟨some 42, .pick (.t 30) (.t 41) (.b false), some (23, false)⟩,
                ⟨some 43, .pick (.t 23) (.b true) (.t 42), none⟩,
                ⟨some 5, .mv (.t 43), none⟩]))
            (.reg [⟨some 20, .mv (.t 6), none⟩,
              ⟨some 21, .bin .add (.t 20) (.i 1), none⟩,
              ⟨some 6, .mv (.t 21), none⟩]))
def lp16_0 : AC := .seq (.seq (.reg [⟨some 10, .mv (.t 4), none⟩,
        ⟨some 11, .mv (.t 0), none⟩,
        ⟨some 12, .len (.t 11), none⟩,
        ⟨some 13, .bin .lss (.t 10) (.t 12), none⟩])
      (.cond (.t 13)
        (.skip)
        (.exit 0)))
      (.seq (.block 1 (.seq (.reg [⟨some 5, .mv (.b false), none⟩])
        (.seq (.seq (.reg [⟨some 6, .mv (.i 0), none⟩])
        (.block 2 (.loop lp16_1)))
        (.seq (.reg [⟨some 44, .mv (.t 0), none⟩,
          ⟨some 45, .mv (.t 4), none⟩,
          ⟨some 46, .ia .rcd (.t 44) (.t 45), none⟩,
          ⟨some 47, .fa 2 (.t 46), none⟩,
          ⟨some 48, .ld false 1 (.t 47), none⟩,
          ⟨some 49, .bin .eql (.t 48) (.i 3), none⟩,
          ⟨some 50, .mv (.t 49), none⟩,
          ⟨some 51, .mv (.t 5), some (50, true)⟩,
          ⟨some 52, .pick (.t 50) (.t 51) (.b false), none⟩])
        (.cond (.t 52)
          (.reg [⟨some 53, .mv (.t 3), none⟩,
            ⟨some 54, .bin .add (.t 53) (.i 1), none⟩,
            ⟨some 3, .mv (.t 54), none⟩])
          (.skip))))))
      (.reg [⟨some 14, .mv (.t 4), none⟩,
        ⟨some 15, .bin .add (.t 14) (.i 1), none⟩,
        ⟨some 4, .mv (.t 15), none⟩]))
def af16 : AF := ⟨56, [.t 2],
  .seq (.reg [⟨some 2, .mv (.i 0), none⟩])
  (.seq (.seq (.reg [⟨some 7, .mv (.t 0), none⟩,
    ⟨some 8, .call 54 [(.t 7)], none⟩,
    ⟨some 9, .un .not (.t 8), none⟩])
  (.cond (.t 9)
    (.seq (.reg [⟨some 2, .mv (.i (-1)), none⟩])
    (.ret))
    (.skip)))
  (.seq (.reg [⟨some 3, .mv (.i 0), none⟩])
  (.seq (.seq (.reg [⟨some 4, .mv (.i 0), none⟩])
  (.block 0 (.loop lp16_0)))
  (.seq (.reg [⟨some 55, .mv (.t 3), none⟩,
    ⟨some 2, .mv (.t 55), none⟩])
  (.ret)))))⟩

set_option maxHeartbeats 4000000 in
theorem does16 (as : List AV) (hok : ok 64 as) : Does tb16 af16 conAns as := by
  cases h : (conAns).run as with
  | none => exact does_none h
  | some out =>
    have h' := h
    simp only [conAns] at h'
    split at h'
    · rename_i l
      simp only [ok] at hok
      obtain ⟨⟨hlen, _⟩, _⟩ := hok
      simp only [Option.some.injEq] at h'
      subst h'
      have hmo : (most : Int) = 1099511627776 := rfl
      have hml : (maxLen : Int) = 9223372036854775807 := rfl
      with_reducible refine does_by h fun Q hQ => ?_
      clear h
      dsimp only [af16, conAns, go_sem, Nat.reduceAdd, Nat.reduceMul, Nat.reduceSub, Nat.reduceBEq, Nat.reduceLeDiff, Nat.reduceEqDiff, ↓dreduceIte, toG, tb16_54, conRecsOk]
      repeat' first
        | with_reducible refine kon_seq ?_
        | with_reducible refine kon_nil ?_
        | with_reducible refine kon_skip ?_
        | with_reducible refine kon_block ?_
        | with_reducible refine kon_ret ?_
        | with_reducible refine kon_exit ?_
        | with_reducible refine kon_past_ret ?_
        | with_reducible refine kon_past_exit ?_
        | with_reducible refine kon_blk_ret ?_
        | with_reducible refine kon_blk_end ?_
        | with_reducible refine kon_blk_exit ?_
        | (with_reducible refine kon_blk_past ?_ ?_
           · decide)
        | with_reducible refine loop_exit ?_
        | with_reducible refine loop_ret ?_
        | with_reducible refine mid_exit ?_
        | with_reducible refine mid_ret ?_
        | (with_reducible refine kon_bin fun R hR => ?_
           dsimp only [go_sem, Nat.reduceAdd, Nat.reduceMul, Nat.reduceSub, Nat.reduceBEq, Nat.reduceLeDiff, Nat.reduceEqDiff, ↓dreduceIte, toG, tb16_54, conRecsOk]
           try simp (disch := first | omega | (simp only [List.length_set, List.length_append, List.length_cons, List.length_nil, List.length_replicate]; omega)) only [guardP_T, guardP_pos, iteN, rd_set, List.set_set, List.length_set, eta_fact, eta_rumor, eta_doubt, eta_item, eta_rec, eta_due, look, look0, rd_toNat, wrap64, Int.toNat_natCast, Nat.zero_add, List.take_length, List.drop_zero, and_self, setB_len, true_and, and_true]
           with_reducible refine hR _ ?_
           clear hR R)
        | (with_reducible refine kon_conv fun R hR => ?_
           dsimp only [go_sem, Nat.reduceAdd, Nat.reduceMul, Nat.reduceSub, Nat.reduceBEq, Nat.reduceLeDiff, Nat.reduceEqDiff, ↓dreduceIte, toG, tb16_54, conRecsOk]
           try simp (disch := first | omega | (simp only [List.length_set, List.length_append, List.length_cons, List.length_nil, List.length_replicate]; omega)) only [guardP_T, guardP_pos, iteN, rd_set, List.set_set, List.length_set, eta_fact, eta_rumor, eta_doubt, eta_item, eta_rec, eta_due, look, look0, rd_toNat, wrap64, Int.toNat_natCast, Nat.zero_add, List.take_length, List.drop_zero, and_self, setB_len, true_and, and_true]
           with_reducible refine hR _ ?_
           clear hR R)
        | (with_reducible refine kon_ins fun R hR => ?_
           dsimp only [go_sem, Nat.reduceAdd, Nat.reduceMul, Nat.reduceSub, Nat.reduceBEq, Nat.reduceLeDiff, Nat.reduceEqDiff, ↓dreduceIte, toG, tb16_54, conRecsOk]
           first
             | with_reducible refine hR _ ?_
             | (simp (disch := first | omega | (simp only [List.length_set, List.length_append, List.length_cons, List.length_nil, List.length_replicate]; omega)) only [guardP_T, guardP_pos, iteN, rd_set, List.set_set, List.length_set, eta_fact, eta_rumor, eta_doubt, eta_item, eta_rec, eta_due, look, look0, rd_toNat, wrap64, Int.toNat_natCast, Nat.zero_add, List.take_length, List.drop_zero, and_self, setB_len, true_and, and_true]
                try dsimp only [go_sem, Nat.reduceAdd, Nat.reduceMul, Nat.reduceSub, Nat.reduceBEq, Nat.reduceLeDiff, Nat.reduceEqDiff, ↓dreduceIte, toG, tb16_54, conRecsOk]
                try simp (disch := first | omega | (simp only [List.length_set, List.length_append, List.length_cons, List.length_nil, List.length_replicate]; omega)) only [guardP_T, guardP_pos, iteN, rd_set, List.set_set, List.length_set, eta_fact, eta_rumor, eta_doubt, eta_item, eta_rec, eta_due, look, look0, rd_toNat, wrap64, Int.toNat_natCast, Nat.zero_add, List.take_length, List.drop_zero, and_self, setB_len, true_and, and_true]
                with_reducible refine hR _ ?_)
           clear hR R)
        | (with_reducible refine kon_g_run ?_ ?_
           · dsimp only [nth] <;> with_reducible rfl)
        | (with_reducible refine kon_g_skip ?_ ?_
           · dsimp only [nth, not_t', not_f'] <;> with_reducible rfl
           dsimp only [go_sem])
        | (with_reducible refine kon_g_undef ?_ ?_
           · dsimp only [nth] <;> with_reducible rfl
           dsimp only [go_sem])
        | (with_reducible refine kon_g fun R hR => ?_
           dsimp only [go_sem, Nat.reduceAdd, Nat.reduceMul, Nat.reduceSub, Nat.reduceBEq, Nat.reduceLeDiff, Nat.reduceEqDiff, ↓dreduceIte, toG, tb16_54, conRecsOk]
           split <;> (rename_i hb; with_reducible refine hR _ ?_; clear hR R; try simp only [hb]; try simp only [decide_eq_true_eq, decide_eq_false_iff_not, beq_iff_eq, beq_eq_false_iff_ne, bne_iff_ne, bne_eq_false_iff_eq, Bool.not_eq_true, Bool.not_eq_false, Bool.not_eq_eq_eq_not, Bool.not_true, Bool.not_false, ne_eq, Int.not_lt, Int.not_le, eq_self, not_true_eq_false, not_false_eq_true, decide_true, decide_false, Bool.and_eq_true, Bool.or_eq_true, Bool.and_eq_false_iff, Bool.or_eq_false_iff, gt_iff_lt, ge_iff_le, Bool.false_eq_true, Bool.true_eq_false, reduceCtorEq, or_false, false_or, or_true, true_or, false_and, and_false] at hb; try (exfalso; omega)))
        | (with_reducible refine kon_cond fun R1 R2 h1 h2 => ?_
           dsimp only [go_sem]
           first
             | (with_reducible refine h1 ?_; clear h1 h2 R1 R2)
             | (with_reducible refine h2 ?_; clear h1 h2 R1 R2)
             | (split <;> rename_i hb <;> first
                 | (with_reducible refine h1 ?_; clear h1 h2 R1 R2; try simp only [hb]; try simp only [decide_eq_true_eq, decide_eq_false_iff_not, beq_iff_eq, beq_eq_false_iff_ne, bne_iff_ne, bne_eq_false_iff_eq, Bool.not_eq_true, Bool.not_eq_false, Bool.not_eq_eq_eq_not, Bool.not_true, Bool.not_false, ne_eq, Int.not_lt, Int.not_le, eq_self, not_true_eq_false, not_false_eq_true, decide_true, decide_false, Bool.and_eq_true, Bool.or_eq_true, Bool.and_eq_false_iff, Bool.or_eq_false_iff, gt_iff_lt, ge_iff_le, Bool.false_eq_true, Bool.true_eq_false, reduceCtorEq, or_false, false_or, or_true, true_or, false_and, and_false] at hb; try (exfalso; omega))
                 | (with_reducible refine h2 ?_; clear h1 h2 R1 R2; try simp only [hb]; try simp only [decide_eq_true_eq, decide_eq_false_iff_not, beq_iff_eq, beq_eq_false_iff_ne, bne_iff_ne, bne_eq_false_iff_eq, Bool.not_eq_true, Bool.not_eq_false, Bool.not_eq_eq_eq_not, Bool.not_true, Bool.not_false, ne_eq, Int.not_lt, Int.not_le, eq_self, not_true_eq_false, not_false_eq_true, decide_true, decide_false, Bool.and_eq_true, Bool.or_eq_true, Bool.and_eq_false_iff, Bool.or_eq_false_iff, gt_iff_lt, ge_iff_le, Bool.false_eq_true, Bool.true_eq_false, reduceCtorEq, or_false, false_or, or_true, true_or, false_and, and_false] at hb; try (exfalso; omega))))
        | (with_reducible refine kon_rounds (a := lp16_0) [0, 3, 4] (fun n9 s9 => ∃ (i : Int) (n : Int), ((0 ≤ i) ∧ (i ≤ l.length) ∧ (recsOk l = true) ∧ (0 ≤ n) ∧ (n ≤ i) ∧ (n = ansN l i.toNat)) ∧ n9 = (l.length - i).toNat ∧ s9.m = [] ∧ s9.t = [.sl .rcd l, nth s9.t 1, nth s9.t 2, .int .i64 n, .int .i64 i, nth s9.t 5, nth s9.t 6, nth s9.t 7, nth s9.t 8, nth s9.t 9, nth s9.t 10, nth s9.t 11, nth s9.t 12, nth s9.t 13, nth s9.t 14, nth s9.t 15, nth s9.t 16, nth s9.t 17, nth s9.t 18, nth s9.t 19, nth s9.t 20, nth s9.t 21, nth s9.t 22, nth s9.t 23, nth s9.t 24, nth s9.t 25, nth s9.t 26, nth s9.t 27, nth s9.t 28, nth s9.t 29, nth s9.t 30, nth s9.t 31, nth s9.t 32, nth s9.t 33, nth s9.t 34, nth s9.t 35, nth s9.t 36, nth s9.t 37, nth s9.t 38, nth s9.t 39, nth s9.t 40, nth s9.t 41, nth s9.t 42, nth s9.t 43, nth s9.t 44, nth s9.t 45, nth s9.t 46, nth s9.t 47, nth s9.t 48, nth s9.t 49, nth s9.t 50, nth s9.t 51, nth s9.t 52, nth s9.t 53, nth s9.t 54, nth s9.t 55]) ?_ ?_
           all_goals first
             | (rintro n9 ⟨t9, m9⟩ ⟨i, n, ⟨hI0, hI1, hI2, hI3, hI4, hI5⟩, rfl, hm9, ht9⟩
                dsimp only at hm9 ht9
                subst hm9
                rw [ht9]
                clear ht9
                dsimp only [lp16_0])
             | (dsimp only [go_sem, Nat.reduceAdd, Nat.reduceMul, Nat.reduceSub, Nat.reduceBEq, Nat.reduceLeDiff, Nat.reduceEqDiff, ↓dreduceIte, toG, tb16_54, conRecsOk]
                refine ⟨_, _, _, ⟨?_, ?_, ?_, ?_, ?_, ?_⟩, rfl, rfl, rfl⟩))
        | (with_reducible refine loop_again (keep := [0, 3, 4]) ?_
           dsimp only [go_sem, Nat.reduceAdd, Nat.reduceMul, Nat.reduceSub, Nat.reduceBEq, Nat.reduceLeDiff, Nat.reduceEqDiff, ↓dreduceIte, toG, tb16_54, conRecsOk]
           refine ⟨_, ?_, _, _, ⟨?_, ?_, ?_, ?_, ?_, ?_⟩, rfl, rfl, rfl⟩)
        | (with_reducible refine kon_rounds (a := lp16_1) [0, 3, 4, 5, 6] (fun n9 s9 => ∃ (k : Int) (g : Bool), ((0 ≤ k) ∧ (k ≤ l.length) ∧ (g = (l.take k.toNat).any (gotP (rd l i).a))) ∧ n9 = (l.length - k).toNat ∧ s9.m = [] ∧ s9.t = [.sl .rcd l, nth s9.t 1, nth s9.t 2, .int .i64 n, .int .i64 i, .bool g, .int .i64 k, nth s9.t 7, nth s9.t 8, nth s9.t 9, nth s9.t 10, nth s9.t 11, nth s9.t 12, nth s9.t 13, nth s9.t 14, nth s9.t 15, nth s9.t 16, nth s9.t 17, nth s9.t 18, nth s9.t 19, nth s9.t 20, nth s9.t 21, nth s9.t 22, nth s9.t 23, nth s9.t 24, nth s9.t 25, nth s9.t 26, nth s9.t 27, nth s9.t 28, nth s9.t 29, nth s9.t 30, nth s9.t 31, nth s9.t 32, nth s9.t 33, nth s9.t 34, nth s9.t 35, nth s9.t 36, nth s9.t 37, nth s9.t 38, nth s9.t 39, nth s9.t 40, nth s9.t 41, nth s9.t 42, nth s9.t 43, nth s9.t 44, nth s9.t 45, nth s9.t 46, nth s9.t 47, nth s9.t 48, nth s9.t 49, nth s9.t 50, nth s9.t 51, nth s9.t 52, nth s9.t 53, nth s9.t 54, nth s9.t 55]) ?_ ?_
           all_goals first
             | (rintro n9 ⟨t9, m9⟩ ⟨k, g, ⟨hI0, hI1, hI2⟩, rfl, hm9, ht9⟩
                dsimp only at hm9 ht9
                subst hm9
                rw [ht9]
                clear ht9
                dsimp only [lp16_1])
             | (dsimp only [go_sem, Nat.reduceAdd, Nat.reduceMul, Nat.reduceSub, Nat.reduceBEq, Nat.reduceLeDiff, Nat.reduceEqDiff, ↓dreduceIte, toG, tb16_54, conRecsOk]
                refine ⟨_, _, _, ⟨?_, ?_, ?_⟩, rfl, rfl, rfl⟩))
        | (with_reducible refine loop_again (keep := [0, 3, 4, 5, 6]) ?_
           dsimp only [go_sem, Nat.reduceAdd, Nat.reduceMul, Nat.reduceSub, Nat.reduceBEq, Nat.reduceLeDiff, Nat.reduceEqDiff, ↓dreduceIte, toG, tb16_54, conRecsOk]
           refine ⟨_, ?_, _, _, ⟨?_, ?_, ?_⟩, rfl, rfl, rfl⟩)
      all_goals first
        | (dsimp only [kon]
           with_reducible refine hQ _ _ _ ?_
           dsimp only [kon, endQ, af16, conAns, go_sem, Nat.reduceAdd, Nat.reduceMul, Nat.reduceSub, Nat.reduceBEq, Nat.reduceLeDiff, Nat.reduceEqDiff, ↓dreduceIte, toG, tb16_54, conRecsOk]
           try simp (disch := first | omega | (simp only [List.length_set, List.length_append, List.length_cons, List.length_nil, List.length_replicate]; omega)) only [guardP_T, guardP_pos, iteN, rd_set, List.set_set, List.length_set, eta_fact, eta_rumor, eta_doubt, eta_item, eta_rec, eta_due, look, look0, rd_toNat, wrap64, Int.toNat_natCast, Nat.zero_add, List.take_length, List.drop_zero, and_self, setB_len, true_and, and_true]
           try dsimp only [go_sem, Nat.reduceAdd, Nat.reduceMul, Nat.reduceSub, Nat.reduceBEq, Nat.reduceLeDiff, Nat.reduceEqDiff, ↓dreduceIte, toG, tb16_54, conRecsOk])
        | skip
      all_goals try first
        | omega
        | (simp; done)
        | (simp; omega)
      all_goals first
        | omega
        | (simp [ansN]; done)
        | (rw [hI5, show i.toNat = l.length by omega]; simp_all; done)
        | (rw [take_rd (by omega) (by omega), List.any_append]; simp_all [gotP]; done)
        | (refine ansN_no (by omega) (by omega) (fun h => ?_); rw [take_all (by omega)] at hI2; simp_all; done)
        | (refine ansN_no (by omega) (by omega) (fun h => ?_); exfalso; omega)
        | (rw [take_all (by omega)] at hI2; rw [ansN_step (by omega)]; simp_all; done)
        | (rw [ansN_step (by omega)]; simp_all; done)
        | (simp_all; done)
    · simp at h'

end Go.Proofs.Ytpinkajnaeacdaa
