/- Which places a clause speaks of. -/
import Derived.Test.YtnghlmogcbmlfaaJudA
namespace Go.Proofs.Ytnghlmogcbmlfaa
set_option linter.unusedVariables false
set_option linter.unusedSimpArgs false
set_option linter.unnecessarySimpa false

def idxI : List Int → Int → Int → Int
  | [], _, _ => -1
  | x :: r, n, i => if n = x then i else idxI r n (i + 1)

theorem idxI_mem (l : List Int) (n i : Int) (h : 0 ≤ i) : 0 ≤ idxI l n i ↔ n ∈ l := by
  induction l generalizing i with
  | nil => simp [idxI]
  | cons x r ih =>
    simp only [idxI, List.mem_cons]
    split
    · simp [*]
    · rw [ih (i + 1) (by omega)]
      simp [*]

theorem idxI_bd (l : List Int) (n i : Int) (h : 0 ≤ i) : -1 ≤ idxI l n i ∧ idxI l n i < i + l.length := by
  induction l generalizing i with
  | nil => simp [idxI]; omega
  | cons x r ih =>
    have := ih (i + 1) (by omega)
    simp only [idxI, List.length_cons]
    split <;> omega

def conIdxI : Con := ⟨[.imm .int, .v], .v, fun as => match as with
  | [.sl .int l, .int .i64 n] => some (.int .i64 (idxI l n 0), [])
  | _ => none⟩

def conHasI : Con := ⟨[.imm .int, .v], .v, fun as => match as with
  | [.sl .int l, .int .i64 n] => some (.bool (decide (n ∈ l)), [])
  | _ => none⟩

theorem selI_iff {p : Rec → Bool} {l : List Rec} {s : Int} {n : Nat} {k : Int} (hs : -1 ≤ s) : k ∈ selI p l s n ↔ (s < k ∧ k < n ∧ p (rd l k) = true) := by
  induction n with
  | zero =>
    simp only [selI, List.not_mem_nil, false_iff]
    omega
  | succ n ih =>
    simp only [selI, List.mem_append, ih]
    constructor
    · rintro (h | h)
      · exact ⟨h.1, by omega, h.2.2⟩
      · split at h
        · rename_i hc
          simp only [List.mem_singleton] at h
          subst h
          exact ⟨hc.1, by omega, hc.2⟩
        · simp at h
    · rintro ⟨h1, h2, h3⟩
      by_cases e : k = n
      · subst e
        exact .inr (by rw [if_pos ⟨h1, h3⟩]; simp)
      · exact .inl ⟨h1, by omega, h3⟩

theorem lastI_hit {p : Rec → Bool} {l : List Rec} {n : Nat} {k : Int} (h0 : 0 ≤ k) (h1 : k < n) (h : p (rd l k) = true) : k ≤ lastI p l n := by
  induction n with
  | zero => omega
  | succ n ih =>
    simp only [lastI]
    split
    · omega
    · rename_i hn
      by_cases e : k = n
      · subst e
        exact absurd h hn
      · exact ih (by omega)

def kindP (n kd : Int) (r : Rec) : Bool := r.node == n && r.kind == kd

/-- Is there no record of a kind behind a place, of the node of another place, ahead of that one? -/
def quietB (l : List Rec) (k i kd : Int) : Bool := decide (lastI (kindP (rd l i).node kd) l i.toNat ≤ k)

def speaksI (l : List Rec) (c k i : Int) : Bool :=
  if c = 1 then k == i - 1
  else if c = 2 then crashP (rd l i).node (rd l k) && decide (lastI (startP (rd l i).node) l i.toNat < k)
  else if c = 3 then (startP (rd l i).node (rd l k) && decide (lastI (crashP (rd l i).node) l i.toNat < k)) || noLessP (rd l i).node (rd l i).a (rd l k)
  else if c = 4 then sameP (rd l i) (rd l k)
  else if c = 6 then decide (k ∈ risL l i)
  else false

def firstS (l : List Rec) (k i c : Int) : Bool :=
  if c = 1 then k == i - 1
  else if c = 2 then (rd l k).kind == 2 && (decide (0 ≤ lastI (lifeP (rd l i).node) l i.toNat) && ((rd l k).node == (rd l i).node && quietB l k i 1))
  else if c = 3 then ((rd l k).node == (rd l i).node && ((rd l k).kind == 1 && quietB l k i 2)) || bornP (rd l i).node (rd l i).a (rd l k)
  else if c = 4 then sameP (rd l i) (rd l k)
  else if c = 6 then riseP (rd l i) (rd l k) && quietB l k i 1
  else false

theorem kind_start (n : Int) : kindP n 1 = startP n := rfl
theorem kind_crash (n : Int) : kindP n 2 = crashP n := rfl

/-- Behind a place that is not so itself: the last one that is so lies ahead. -/
theorem last_not {p : Rec → Bool} {l : List Rec} {n : Nat} {k : Int} (h0 : 0 ≤ k) (h : p (rd l k) = false) : decide (lastI p l n ≤ k) = decide (lastI p l n < k) := by
  rw [Bool.eq_iff_iff, decide_eq_true_eq, decide_eq_true_eq]
  constructor
  · intro hle
    by_cases e : lastI p l n = k
    · have := lastI_at (p := p) (l := l) (n := n) (by omega)
      rw [e, h] at this
      cases this
    · omega
  · omega

theorem speaks_same {l : List Rec} {c k i : Int} (h : recsOk l = true) (h0 : 0 ≤ k) (h1 : k < i) (h2 : i < l.length) (hb : breaksI l i c = true) : speaksI l c k i = firstS l k i c := by
  unfold speaksI firstS
  by_cases c1 : c = 1
  · rw [if_pos c1, if_pos c1]
  rw [if_neg c1, if_neg c1]
  by_cases c2 : c = 2
  · rw [if_pos c2, if_pos c2]
    unfold quietB
    rw [kind_start]
    cases hk : crashP (rd l i).node (rd l k) with
    | false =>
      simp only [crashP, Bool.and_eq_false_iff, beq_eq_false_iff_ne] at hk
      simp only [Bool.false_and]
      symm
      rcases hk with hk | hk
      · simp [hk]
      · simp [hk]
    | true =>
      have hl : 0 ≤ lastI (lifeP (rd l i).node) l i.toNat := by
        have := lastI_hit (p := lifeP (rd l i).node) (l := l) (n := i.toNat) h0 (by omega) (by
          simp only [crashP, Bool.and_eq_true, beq_iff_eq] at hk
          simp [lifeP, hk])
        omega
      have hs : startP (rd l i).node (rd l k) = false := by
        simp only [crashP, Bool.and_eq_true, beq_iff_eq] at hk
        simp [startP, hk]
      rw [last_not h0 hs]
      simp only [crashP, Bool.and_eq_true, beq_iff_eq] at hk
      simp [hk, hl]
  rw [if_neg c2, if_neg c2]
  by_cases c3 : c = 3
  · rw [if_pos c3, if_pos c3]
    have ha : 0 ≤ (rd l i).a := by
      have hk : (rd l i).kind = 1 := by
        subst c3
        simp only [breaksI] at hb
        simp at hb
        exact hb.1
      exact recOk_start (recsOk_mem h (rd_mem' (by omega) h2)) hk
    rw [told_own _ _ _ ha]
    congr 1
    unfold quietB
    rw [kind_crash]
    cases hk : startP (rd l i).node (rd l k) with
    | false =>
      simp only [startP, Bool.and_eq_false_iff, beq_eq_false_iff_ne] at hk
      simp only [Bool.false_and]
      symm
      rcases hk with hk | hk
      · simp [hk]
      · simp [hk]
    | true =>
      have hs : crashP (rd l i).node (rd l k) = false := by
        simp only [startP, Bool.and_eq_true, beq_iff_eq] at hk
        simp [crashP, hk]
      rw [last_not h0 hs]
      simp only [startP, Bool.and_eq_true, beq_iff_eq] at hk
      simp [hk]
  rw [if_neg c3, if_neg c3]
  by_cases c4 : c = 4
  · rw [if_pos c4, if_pos c4]
  rw [if_neg c4, if_neg c4]
  by_cases c6 : c = 6
  · rw [if_pos c6, if_pos c6]
    unfold quietB risL
    rw [kind_start]
    have hge := lastI_ge (startP (rd l i).node) l i.toNat
    cases hk : riseP (rd l i) (rd l k) with
    | false =>
      simp only [Bool.false_and, decide_eq_false_iff_not]
      rw [selI_iff hge]
      simp [hk]
    | true =>
      have hs : startP (rd l i).node (rd l k) = false := by
        simp only [riseP, Bool.and_eq_true, beq_iff_eq] at hk
        simp [startP, hk]
      rw [last_not h0 hs, Bool.true_and, Bool.eq_iff_iff, decide_eq_true_eq, decide_eq_true_eq, selI_iff hge]
      constructor
      · intro h; exact h.1
      · intro h9; exact ⟨h9, by omega, hk⟩
  · rw [if_neg c6, if_neg c6]

def conQuiet : Con := ⟨[.imm .rcd, .v, .v, .v], .v, fun as => match as with
  | [.sl .rcd l, .int .i64 k, .int .i64 i, .int .i64 d] => guardP (0 ≤ k ∧ k < i ∧ i < l.length) (some (.bool (quietB l k i d), []))
  | _ => none⟩

def conSpeaks : Con := ⟨[.imm .rcd, .v, .v, .v], .v, fun as => match as with
  | [.sl .rcd l, .int .i64 c, .int .i64 k, .int .i64 i] => guardP (0 ≤ k ∧ k < i ∧ i < l.length ∧ l.length ≤ 400) (some (.bool (speaksI l c k i), []))
  | _ => none⟩

def conFirst : Con := ⟨[.imm .rcd, .v, .v, .v], .v, fun as => match as with
  | [.sl .rcd l, .int .i64 k, .int .i64 i, .int .i64 c] => guardP (0 ≤ k ∧ k < i ∧ i < l.length) (some (.bool (firstS l k i c), []))
  | _ => none⟩

-- slices.Index[[]int,int] hows []
def lp213_0 : AC := .seq (.reg [⟨some 9, .bin .lss (.t 8) (.t 7), none⟩])
      (.seq (.cond (.t 9)
        (.skip)
        (.exit 0))
      (.seq (.block 1 (.seq (.reg [⟨some 10, .mv (.t 8), none⟩,
          ⟨some 5, .mv (.t 10), none⟩])
        (.seq (.reg [⟨some 11, .mv (.t 1), none⟩,
          ⟨some 12, .mv (.t 0), none⟩,
          ⟨some 13, .mv (.t 5), none⟩,
          ⟨some 14, .ia .int (.t 12) (.t 13), none⟩,
          ⟨some 15, .ld false 1 (.t 14), none⟩,
          ⟨some 16, .bin .eql (.t 11) (.t 15), none⟩])
        (.cond (.t 16)
          (.seq (.reg [⟨some 17, .mv (.t 5), none⟩,
            ⟨some 4, .mv (.t 17), none⟩])
          (.ret))
          (.skip)))))
      (.reg [⟨some 18, .bin .add (.t 8) (.i 1), none⟩,
        ⟨some 8, .mv (.t 18), none⟩])))
def af213 : AF := ⟨19, [.t 4],
  .seq (.reg [⟨some 4, .mv (.i 0), none⟩])
  (.seq (.seq (.reg [⟨some 6, .mv (.t 0), none⟩,
    ⟨some 7, .len (.t 6), none⟩,
    ⟨some 8, .mv (.i 0), none⟩])
  (.block 0 (.loop lp213_0)))
  (.seq (.reg [⟨some 4, .mv (.i (-1)), none⟩])
  (.ret)))⟩

set_option maxHeartbeats 4000000 in
theorem does213 (as : List AV) (hok : ok 64 as) : Does tbNone af213 conIdxI as := by
  cases h : (conIdxI).run as with
  | none => exact does_none h
  | some out =>
    have h' := h
    simp only [conIdxI] at h'
    split at h'
    · rename_i l n
      simp only [ok] at hok
      obtain ⟨⟨hlen, _⟩, _⟩ := hok
      simp only [Option.some.injEq] at h'
      subst h'
      have hmo : (most : Int) = 1099511627776 := rfl
      have hml : (maxLen : Int) = 9223372036854775807 := rfl
      with_reducible refine does_by h fun Q hQ => ?_
      clear h
      dsimp only [af213, conIdxI, go_sem, Nat.reduceAdd, Nat.reduceMul, Nat.reduceSub, Nat.reduceBEq, Nat.reduceLeDiff, Nat.reduceEqDiff, ↓dreduceIte, toG]
      repeat' first
        | with_reducible refine kon_seq ?_
        | with_reducible refine kon_nil ?_
        | with_reducible refine kon_any ?_ ?_
        | with_reducible exact kon_any_nil
        | with_reducible refine kon_skip ?_
        | with_reducible refine kon_block ?_
        | with_reducible refine kon_ret ?_
        | with_reducible refine kon_exit ?_
        | with_reducible refine kon_past_ret ?_
        | with_reducible refine kon_past_exit ?_
        | with_reducible refine kon_blk_ret ?_
        | with_reducible refine kon_blk_end ?_
        | with_reducible refine kon_blk_exit ?_
        | (with_reducible refine kon_blk_past ?_ ?_
           · decide)
        | with_reducible refine loop_exit ?_
        | with_reducible refine loop_ret ?_
        | with_reducible refine mid_exit ?_
        | with_reducible refine mid_ret ?_
        | ((first | with_reducible refine kon_bin fun R hR => ?_ | with_reducible refine kon_conv fun R hR => ?_)
           dsimp only [go_sem, Nat.reduceAdd, Nat.reduceMul, Nat.reduceSub, Nat.reduceBEq, Nat.reduceLeDiff, Nat.reduceEqDiff, ↓dreduceIte, toG]
           try simp (disch := first | omega | (simp only [List.length_set, List.length_append, List.length_cons, List.length_nil, List.length_replicate]; omega)) only [guardP_T, guardP_pos, iteN, rd_set, List.set_set, List.length_set, eta_fact, eta_rumor, eta_doubt, eta_item, eta_rec, eta_due, look, look0, rd_toNat, wrap64, Int.toNat_natCast, Nat.zero_add, List.take_length, List.drop_zero, and_self, setB_len, true_and, and_true]
           with_reducible refine hR _ ?_
           clear hR R)
        | (with_reducible refine kon_ins fun R hR => ?_
           dsimp only [go_sem, Nat.reduceAdd, Nat.reduceMul, Nat.reduceSub, Nat.reduceBEq, Nat.reduceLeDiff, Nat.reduceEqDiff, ↓dreduceIte, toG]
           first
             | with_reducible refine hR _ ?_
             | (simp (disch := first | omega | (simp only [List.length_set, List.length_append, List.length_cons, List.length_nil, List.length_replicate]; omega)) only [guardP_T, guardP_pos, iteN, rd_set, List.set_set, List.length_set, eta_fact, eta_rumor, eta_doubt, eta_item, eta_rec, eta_due, look, look0, rd_toNat, wrap64, Int.toNat_natCast, Nat.zero_add, List.take_length, List.drop_zero, and_self, setB_len, true_and, and_true]
                try dsimp only [go_sem, Nat.reduceAdd, Nat.reduceMul, Nat.reduceSub, Nat.reduceBEq, Nat.reduceLeDiff, Nat.reduceEqDiff, ↓dreduceIte, toG]
                try simp (disch := first | omega | (simp only [List.length_set, List.length_append, List.length_cons, List.length_nil, List.length_replicate]; omega)) only [guardP_T, guardP_pos, iteN, rd_set, List.set_set, List.length_set, eta_fact, eta_rumor, eta_doubt, eta_item, eta_rec, eta_due, look, look0, rd_toNat, wrap64, Int.toNat_natCast, Nat.zero_add, List.take_length, List.drop_zero, and_self, setB_len, true_and, and_true]
                with_reducible refine hR _ ?_)
           clear hR R)
        | (with_reducible refine kon_g_run ?_ ?_
           · dsimp only [nth] <;> with_reducible rfl)
        | (with_reducible refine kon_g_skip ?_ ?_
           · dsimp only [nth, not_t', not_f'] <;> with_reducible rfl
           dsimp only [go_sem])
        | (with_reducible refine kon_g_undef ?_ ?_
           · dsimp only [nth] <;> with_reducible rfl
           dsimp only [go_sem])
        | (with_reducible refine kon_g fun R hR => ?_
           dsimp only [go_sem, Nat.reduceAdd, Nat.reduceMul, Nat.reduceSub, Nat.reduceBEq, Nat.reduceLeDiff, Nat.reduceEqDiff, ↓dreduceIte, toG]
           split <;> (rename_i hb; with_reducible refine hR _ ?_; clear hR R; try simp only [hb]; try simp only [decide_eq_true_eq, decide_eq_false_iff_not, beq_iff_eq, beq_eq_false_iff_ne, bne_iff_ne, bne_eq_false_iff_eq, Bool.not_eq_true, Bool.not_eq_false, Bool.not_eq_eq_eq_not, Bool.not_true, Bool.not_false, ne_eq, Int.not_lt, Int.not_le, eq_self, not_true_eq_false, not_false_eq_true, decide_true, decide_false, Bool.and_eq_true, Bool.or_eq_true, Bool.and_eq_false_iff, Bool.or_eq_false_iff, gt_iff_lt, ge_iff_le, Bool.false_eq_true, Bool.true_eq_false, reduceCtorEq, or_false, false_or, or_true, true_or, false_and, and_false] at hb; try (exfalso; omega)))
        | (with_reducible refine kon_cond fun R1 R2 h1 h2 => ?_
           dsimp only [go_sem]
           first
             | (with_reducible refine h1 ?_; clear h1 h2 R1 R2)
             | (with_reducible refine h2 ?_; clear h1 h2 R1 R2)
             | ((split <;> rename_i hb <;> first
                 | (with_reducible refine h1 ?_; clear h1 h2 R1 R2; try simp only [hb])
                 | (with_reducible refine h2 ?_; clear h1 h2 R1 R2; try simp only [hb])) <;> (try simp only [decide_eq_true_eq, decide_eq_false_iff_not, beq_iff_eq, beq_eq_false_iff_ne, bne_iff_ne, bne_eq_false_iff_eq, Bool.not_eq_true, Bool.not_eq_false, Bool.not_eq_eq_eq_not, Bool.not_true, Bool.not_false, ne_eq, Int.not_lt, Int.not_le, eq_self, not_true_eq_false, not_false_eq_true, decide_true, decide_false, Bool.and_eq_true, Bool.or_eq_true, Bool.and_eq_false_iff, Bool.or_eq_false_iff, gt_iff_lt, ge_iff_le, Bool.false_eq_true, Bool.true_eq_false, reduceCtorEq, or_false, false_or, or_true, true_or, false_and, and_false] at hb; try (exfalso; omega))))
        | (with_reducible refine kon_rounds (a := lp213_0) [0, 1, 7, 8] (fun n9 s9 => ∃ (i : Int), ((0 ≤ i) ∧ (i ≤ l.length) ∧ (idxI l n 0 = idxI (l.drop i.toNat) n i)) ∧ n9 = (l.length - i).toNat ∧ s9.m = [] ∧ s9.t = [.sl .int l, .int .i64 n, nth s9.t 2, nth s9.t 3, nth s9.t 4, nth s9.t 5, nth s9.t 6, .int .i64 l.length, .int .i64 i, nth s9.t 9, nth s9.t 10, nth s9.t 11, nth s9.t 12, nth s9.t 13, nth s9.t 14, nth s9.t 15, nth s9.t 16, nth s9.t 17, nth s9.t 18]) ?_ ?_
           all_goals first
             | (rintro n9 ⟨t9, m9⟩ ⟨i, ⟨hI0, hI1, hI2⟩, rfl, hm9, ht9⟩
                dsimp only at hm9 ht9
                subst hm9
                rw [ht9]
                clear ht9
                dsimp only [lp213_0])
             | (dsimp only [go_sem, Nat.reduceAdd, Nat.reduceMul, Nat.reduceSub, Nat.reduceBEq, Nat.reduceLeDiff, Nat.reduceEqDiff, ↓dreduceIte, toG]
                refine ⟨_, _, ⟨?_, ?_, ?_⟩, rfl, rfl, rfl⟩))
        | (with_reducible refine loop_again (keep := [0, 1, 7, 8]) ?_
           dsimp only [go_sem, Nat.reduceAdd, Nat.reduceMul, Nat.reduceSub, Nat.reduceBEq, Nat.reduceLeDiff, Nat.reduceEqDiff, ↓dreduceIte, toG]
           refine ⟨_, ?_, _, ⟨?_, ?_, ?_⟩, rfl, rfl, rfl⟩)
      all_goals first
        | (dsimp only [kon]
           with_reducible refine hQ _ _ _ ?_
           dsimp only [kon, endQ, af213, conIdxI, go_sem, Nat.reduceAdd, Nat.reduceMul, Nat.reduceSub, Nat.reduceBEq, Nat.reduceLeDiff, Nat.reduceEqDiff, ↓dreduceIte, toG]
           try simp (disch := first | omega | (simp only [List.length_set, List.length_append, List.length_cons, List.length_nil, List.length_replicate]; omega)) only [guardP_T, guardP_pos, iteN, rd_set, List.set_set, List.length_set, eta_fact, eta_rumor, eta_doubt, eta_item, eta_rec, eta_due, look, look0, rd_toNat, wrap64, Int.toNat_natCast, Nat.zero_add, List.take_length, List.drop_zero, and_self, setB_len, true_and, and_true]
           try dsimp only [go_sem, Nat.reduceAdd, Nat.reduceMul, Nat.reduceSub, Nat.reduceBEq, Nat.reduceLeDiff, Nat.reduceEqDiff, ↓dreduceIte, toG])
        | skip
      all_goals try first
        | omega
        | (simp; done)
        | (simp; omega)
      all_goals first
        | (rw [hI2, drop_rd (by omega) (by omega), idxI]
           simp_all
           done)
        | (rw [hI2, drop_all (by omega)]; rfl)
    · simp at h'

def tb191 : Tab := fun f => match f with
  | 213 => some conIdxI
  | _ => none

theorem tb191_213 : tb191 213 = some conIdxI := rfl

-- slices.Contains[[]int,int] hows []
def af191 : AF := ⟨9, [.t 4],
  .seq (.reg [⟨some 4, .mv (.b false), none⟩])
  (.seq (.reg [⟨some 5, .mv (.t 0), none⟩,
    ⟨some 6, .mv (.t 1), none⟩,
    ⟨some 7, .call 213 [(.t 5), (.t 6)], none⟩,
    ⟨some 8, .bin .geq (.t 7) (.i 0), none⟩,
    ⟨some 4, .mv (.t 8), none⟩])
  (.ret))⟩

set_option maxHeartbeats 4000000 in
theorem does191 (as : List AV) (hok : ok 64 as) : Does tb191 af191 conHasI as := by
  cases h : (conHasI).run as with
  | none => exact does_none h
  | some out =>
    have h' := h
    simp only [conHasI] at h'
    split at h'
    · rename_i l n
      simp only [Option.some.injEq] at h'
      subst h'
      have hmo : (most : Int) = 1099511627776 := rfl
      have hml : (maxLen : Int) = 9223372036854775807 := rfl
      with_reducible refine does_by h fun Q hQ => ?_
      clear h
      dsimp only [af191, conHasI, go_sem, Nat.reduceAdd, Nat.reduceMul, Nat.reduceSub, Nat.reduceBEq, Nat.reduceLeDiff, Nat.reduceEqDiff, ↓dreduceIte, toG, tb191_213, conIdxI]
      repeat' first
        | with_reducible refine kon_seq ?_
        | with_reducible refine kon_nil ?_
        | with_reducible refine kon_any ?_ ?_
        | with_reducible exact kon_any_nil
        | with_reducible refine kon_skip ?_
        | with_reducible refine kon_block ?_
        | with_reducible refine kon_ret ?_
        | with_reducible refine kon_exit ?_
        | with_reducible refine kon_past_ret ?_
        | with_reducible refine kon_past_exit ?_
        | with_reducible refine kon_blk_ret ?_
        | with_reducible refine kon_blk_end ?_
        | with_reducible refine kon_blk_exit ?_
        | (with_reducible refine kon_blk_past ?_ ?_
           · decide)
        | with_reducible refine loop_exit ?_
        | with_reducible refine loop_ret ?_
        | with_reducible refine mid_exit ?_
        | with_reducible refine mid_ret ?_
        | ((first | with_reducible refine kon_bin fun R hR => ?_ | with_reducible refine kon_conv fun R hR => ?_)
           dsimp only [go_sem, Nat.reduceAdd, Nat.reduceMul, Nat.reduceSub, Nat.reduceBEq, Nat.reduceLeDiff, Nat.reduceEqDiff, ↓dreduceIte, toG, tb191_213, conIdxI]
           try simp (disch := first | omega | (simp only [List.length_set, List.length_append, List.length_cons, List.length_nil, List.length_replicate]; omega)) only [guardP_T, guardP_pos, iteN, rd_set, List.set_set, List.length_set, eta_fact, eta_rumor, eta_doubt, eta_item, eta_rec, eta_due, look, look0, rd_toNat, wrap64, Int.toNat_natCast, Nat.zero_add, List.take_length, List.drop_zero, and_self, setB_len, true_and, and_true]
           with_reducible refine hR _ ?_
           clear hR R)
        | (with_reducible refine kon_ins fun R hR => ?_
           dsimp only [go_sem, Nat.reduceAdd, Nat.reduceMul, Nat.reduceSub, Nat.reduceBEq, Nat.reduceLeDiff, Nat.reduceEqDiff, ↓dreduceIte, toG, tb191_213, conIdxI]
           first
             | with_reducible refine hR _ ?_
             | (simp (disch := first | omega | (simp only [List.length_set, List.length_append, List.length_cons, List.length_nil, List.length_replicate]; omega)) only [guardP_T, guardP_pos, iteN, rd_set, List.set_set, List.length_set, eta_fact, eta_rumor, eta_doubt, eta_item, eta_rec, eta_due, look, look0, rd_toNat, wrap64, Int.toNat_natCast, Nat.zero_add, List.take_length, List.drop_zero, and_self, setB_len, true_and, and_true]
                try dsimp only [go_sem, Nat.reduceAdd, Nat.reduceMul, Nat.reduceSub, Nat.reduceBEq, Nat.reduceLeDiff, Nat.reduceEqDiff, ↓dreduceIte, toG, tb191_213, conIdxI]
                try simp (disch := first | omega | (simp only [List.length_set, List.length_append, List.length_cons, List.length_nil, List.length_replicate]; omega)) only [guardP_T, guardP_pos, iteN, rd_set, List.set_set, List.length_set, eta_fact, eta_rumor, eta_doubt, eta_item, eta_rec, eta_due, look, look0, rd_toNat, wrap64, Int.toNat_natCast, Nat.zero_add, List.take_length, List.drop_zero, and_self, setB_len, true_and, and_true]
                with_reducible refine hR _ ?_)
           clear hR R)
        | (with_reducible refine kon_g_run ?_ ?_
           · dsimp only [nth] <;> with_reducible rfl)
        | (with_reducible refine kon_g_skip ?_ ?_
           · dsimp only [nth, not_t', not_f'] <;> with_reducible rfl
           dsimp only [go_sem])
        | (with_reducible refine kon_g_undef ?_ ?_
           · dsimp only [nth] <;> with_reducible rfl
           dsimp only [go_sem])
        | (with_reducible refine kon_g fun R hR => ?_
           dsimp only [go_sem, Nat.reduceAdd, Nat.reduceMul, Nat.reduceSub, Nat.reduceBEq, Nat.reduceLeDiff, Nat.reduceEqDiff, ↓dreduceIte, toG, tb191_213, conIdxI]
           split <;> (rename_i hb; with_reducible refine hR _ ?_; clear hR R; try simp only [hb]; try simp only [decide_eq_true_eq, decide_eq_false_iff_not, beq_iff_eq, beq_eq_false_iff_ne, bne_iff_ne, bne_eq_false_iff_eq, Bool.not_eq_true, Bool.not_eq_false, Bool.not_eq_eq_eq_not, Bool.not_true, Bool.not_false, ne_eq, Int.not_lt, Int.not_le, eq_self, not_true_eq_false, not_false_eq_true, decide_true, decide_false, Bool.and_eq_true, Bool.or_eq_true, Bool.and_eq_false_iff, Bool.or_eq_false_iff, gt_iff_lt, ge_iff_le, Bool.false_eq_true, Bool.true_eq_false, reduceCtorEq, or_false, false_or, or_true, true_or, false_and, and_false] at hb; try (exfalso; omega)))
        | (with_reducible refine kon_cond fun R1 R2 h1 h2 => ?_
           dsimp only [go_sem]
           first
             | (with_reducible refine h1 ?_; clear h1 h2 R1 R2)
             | (with_reducible refine h2 ?_; clear h1 h2 R1 R2)
             | ((split <;> rename_i hb <;> first
                 | (with_reducible refine h1 ?_; clear h1 h2 R1 R2; try simp only [hb])
                 | (with_reducible refine h2 ?_; clear h1 h2 R1 R2; try simp only [hb])) <;> (try simp only [decide_eq_true_eq, decide_eq_false_iff_not, beq_iff_eq, beq_eq_false_iff_ne, bne_iff_ne, bne_eq_false_iff_eq, Bool.not_eq_true, Bool.not_eq_false, Bool.not_eq_eq_eq_not, Bool.not_true, Bool.not_false, ne_eq, Int.not_lt, Int.not_le, eq_self, not_true_eq_false, not_false_eq_true, decide_true, decide_false, Bool.and_eq_true, Bool.or_eq_true, Bool.and_eq_false_iff, Bool.or_eq_false_iff, gt_iff_lt, ge_iff_le, Bool.false_eq_true, Bool.true_eq_false, reduceCtorEq, or_false, false_or, or_true, true_or, false_and, and_false] at hb; try (exfalso; omega))))
      all_goals first
        | (dsimp only [kon]
           with_reducible refine hQ _ _ _ ?_
           dsimp only [kon, endQ, af191, conHasI, go_sem, Nat.reduceAdd, Nat.reduceMul, Nat.reduceSub, Nat.reduceBEq, Nat.reduceLeDiff, Nat.reduceEqDiff, ↓dreduceIte, toG, tb191_213, conIdxI]
           try simp (disch := first | omega | (simp only [List.length_set, List.length_append, List.length_cons, List.length_nil, List.length_replicate]; omega)) only [guardP_T, guardP_pos, iteN, rd_set, List.set_set, List.length_set, eta_fact, eta_rumor, eta_doubt, eta_item, eta_rec, eta_due, look, look0, rd_toNat, wrap64, Int.toNat_natCast, Nat.zero_add, List.take_length, List.drop_zero, and_self, setB_len, true_and, and_true]
           try dsimp only [go_sem, Nat.reduceAdd, Nat.reduceMul, Nat.reduceSub, Nat.reduceBEq, Nat.reduceLeDiff, Nat.reduceEqDiff, ↓dreduceIte, toG, tb191_213, conIdxI])
        | skip
      all_goals try first
        | omega
        | (simp; done)
        | (simp; omega)
      all_goals first
        | (simp only [Option.some.injEq, Prod.mk.injEq, AV.bool.injEq, and_true]; rw [Bool.eq_iff_iff, decide_eq_true_eq, decide_eq_true_eq]; exact idxI_mem l n 0 (by omega))
    · simp at h'

-- loop.example/g00678/spec.l12Quiet hows [(4, [.any, .any, .any, .any, .any, .any, .any, .any, .any, .any, .any, .any, .any, .any, .any, .any, .any, .any, .any, .any], [])]
def lp177_0 : AC := .seq (.seq (.reg [⟨some 12, .mv (.t 9), none⟩,
        ⟨some 13, .mv (.t 2), none⟩,
        ⟨some 14, .bin .lss (.t 12) (.t 13), none⟩])
      (.cond (.t 14)
        (.skip)
        (.exit 0)))
      (.seq (.block 1 (.seq (.reg [⟨some 17, .mv (.t 0), none⟩,
          ⟨some 18, .mv (.t 9), none⟩,
          ⟨some 19, .ia .rcd (.t 17) (.t 18), none⟩,
          ⟨some 20, .fa 1 (.t 19), none⟩,
          ⟨some 21, .ld false 1 (.t 20), none⟩,
          ⟨some 22, .mv (.t 0), none⟩,
          ⟨some 23, .mv (.t 2), none⟩,
          ⟨some 24, .ia .rcd (.t 22) (.t 23), none⟩,
          ⟨some 25, .fa 1 (.t 24), none⟩,
          ⟨some 26, .ld false 1 (.t 25), none⟩,
          ⟨some 27, .bin .eql (.t 21) (.t 26), none⟩,
          ⟨some 28, .mv (.t 27), none⟩,
          ⟨some 29, .mv (.t 0), some (28, true)⟩,
          ⟨some 30, .mv (.t 9), some (28, true)⟩,
          ⟨some 31, .ia .rcd (.t 29) (.t 30), some (28, true)⟩,
          ⟨some 32, .fa 2 (.t 31), some (28, true)⟩,
          ⟨some 33, .ld false 1 (.t 32), some (28, true)⟩,
          ⟨some 34, .mv (.t 3), some (28, true)⟩,
          ⟨some 35, .bin .eql (.t 33) (.t 34), some (28, true)⟩,
          ⟨some 36, .pick (.t 28) (.t 35) (.b false), none⟩])
        (.cond (.t 36)
          (.seq (.reg [⟨some 8, .mv (.b false), none⟩])
          (.ret))
          (.skip))))
      (.reg [⟨some 15, .mv (.t 9), none⟩,
        ⟨some 16, .bin .add (.t 15) (.i 1), none⟩,
        ⟨some 9, .mv (.t 16), none⟩]))
def af177 : AF := ⟨37, [.t 8],
  .seq (.reg [⟨some 8, .mv (.b false), none⟩])
  (.seq (.seq (.reg [⟨some 10, .mv (.t 1), none⟩,
    ⟨some 11, .bin .add (.t 10) (.i 1), none⟩,
    ⟨some 9, .mv (.t 11), none⟩])
  (.block 0 (.loop lp177_0)))
  (.seq (.reg [⟨some 8, .mv (.b true), none⟩])
  (.ret)))⟩

set_option maxHeartbeats 4000000 in
theorem does177 (as : List AV) (hok : ok 64 as) : Does tbNone af177 conQuiet as := by
  cases h : (conQuiet).run as with
  | none => exact does_none h
  | some out =>
    have h' := h
    simp only [conQuiet] at h'
    split at h'
    · rename_i l k i d
      by_cases hp : 0 ≤ k ∧ k < i ∧ i < l.length
      case neg => simp [guardP, hp] at h'
      rw [guardP_pos hp] at h'
      obtain ⟨hp1, hp2, hp3⟩ := hp
      simp only [ok] at hok
      obtain ⟨⟨hlen, _⟩, _⟩ := hok
      simp only [Option.some.injEq] at h'
      subst h'
      have hmo : (most : Int) = 1099511627776 := rfl
      have hml : (maxLen : Int) = 9223372036854775807 := rfl
      with_reducible refine does_by h fun Q hQ => ?_
      clear h
      dsimp only [af177, conQuiet, go_sem, Nat.reduceAdd, Nat.reduceMul, Nat.reduceSub, Nat.reduceBEq, Nat.reduceLeDiff, Nat.reduceEqDiff, ↓dreduceIte, toG]
      repeat' first
        | with_reducible refine kon_seq ?_
        | with_reducible refine kon_nil ?_
        | with_reducible refine kon_any ?_ ?_
        | with_reducible exact kon_any_nil
        | with_reducible refine kon_skip ?_
        | with_reducible refine kon_block ?_
        | with_reducible refine kon_ret ?_
        | with_reducible refine kon_exit ?_
        | with_reducible refine kon_past_ret ?_
        | with_reducible refine kon_past_exit ?_
        | with_reducible refine kon_blk_ret ?_
        | with_reducible refine kon_blk_end ?_
        | with_reducible refine kon_blk_exit ?_
        | (with_reducible refine kon_blk_past ?_ ?_
           · decide)
        | with_reducible refine loop_exit ?_
        | with_reducible refine loop_ret ?_
        | with_reducible refine mid_exit ?_
        | with_reducible refine mid_ret ?_
        | ((first | with_reducible refine kon_bin fun R hR => ?_ | with_reducible refine kon_conv fun R hR => ?_)
           dsimp only [go_sem, Nat.reduceAdd, Nat.reduceMul, Nat.reduceSub, Nat.reduceBEq, Nat.reduceLeDiff, Nat.reduceEqDiff, ↓dreduceIte, toG]
           try simp (disch := first | omega | (simp only [List.length_set, List.length_append, List.length_cons, List.length_nil, List.length_replicate]; omega)) only [guardP_T, guardP_pos, iteN, rd_set, List.set_set, List.length_set, eta_fact, eta_rumor, eta_doubt, eta_item, eta_rec, eta_due, look, look0, rd_toNat, wrap64, Int.toNat_natCast, Nat.zero_add, List.take_length, List.drop_zero, and_self, setB_len, true_and, and_true]
           with_reducible refine hR _ ?_
           clear hR R)
        | (with_reducible refine kon_ins fun R hR => ?_
           dsimp only [go_sem, Nat.reduceAdd, Nat.reduceMul, Nat.reduceSub, Nat.reduceBEq, Nat.reduceLeDiff, Nat.reduceEqDiff, ↓dreduceIte, toG]
           first
             | with_reducible refine hR _ ?_
             | (simp (disch := first | omega | (simp only [List.length_set, List.length_append, List.length_cons, List.length_nil, List.length_replicate]; omega)) only [guardP_T, guardP_pos, iteN, rd_set, List.set_set, List.length_set, eta_fact, eta_rumor, eta_doubt, eta_item, eta_rec, eta_due, look, look0, rd_toNat, wrap64, Int.toNat_natCast, Nat.zero_add, List.take_length, List.drop_zero, and_self, setB_len, true_and, and_true]
                try dsimp only [go_sem, Nat.reduceAdd, Nat.reduceMul, Nat.reduceSub, Nat.reduceBEq, Nat.reduceLeDiff, Nat.reduceEqDiff, ↓dreduceIte, toG]
                try simp (disch := first | omega | (simp only [List.length_set, List.length_append, List.length_cons, List.length_nil, List.length_replicate]; omega)) only [guardP_T, guardP_pos, iteN, rd_set, List.set_set, List.length_set, eta_fact, eta_rumor, eta_doubt, eta_item, eta_rec, eta_due, look, look0, rd_toNat, wrap64, Int.toNat_natCast, Nat.zero_add, List.take_length, List.drop_zero, and_self, setB_len, true_and, and_true]
                with_reducible refine hR _ ?_)
           clear hR R)
        | (with_reducible refine kon_g_run ?_ ?_
           · dsimp only [nth] <;> with_reducible rfl)
        | (with_reducible refine kon_g_skip ?_ ?_
           · dsimp only [nth, not_t', not_f'] <;> with_reducible rfl
           dsimp only [go_sem])
        | (with_reducible refine kon_g_undef ?_ ?_
           · dsimp only [nth] <;> with_reducible rfl
           dsimp only [go_sem])
        | (with_reducible refine kon_g fun R hR => ?_
           dsimp only [go_sem, Nat.reduceAdd, Nat.reduceMul, Nat.reduceSub, Nat.reduceBEq, Nat.reduceLeDiff, Nat.reduceEqDiff, ↓dreduceIte, toG]
           split <;> (rename_i hb; with_reducible refine hR _ ?_; clear hR R; try simp only [hb]; try simp only [decide_eq_true_eq, decide_eq_false_iff_not, beq_iff_eq, beq_eq_false_iff_ne, bne_iff_ne, bne_eq_false_iff_eq, Bool.not_eq_true, Bool.not_eq_false, Bool.not_eq_eq_eq_not, Bool.not_true, Bool.not_false, ne_eq, Int.not_lt, Int.not_le, eq_self, not_true_eq_false, not_false_eq_true, decide_true, decide_false, Bool.and_eq_true, Bool.or_eq_true, Bool.and_eq_false_iff, Bool.or_eq_false_iff, gt_iff_lt, ge_iff_le, Bool.false_eq_true, Bool.true_eq_false, reduceCtorEq, or_false, false_or, or_true, true_or, false_and, and_false] at hb; try (exfalso; omega)))
        | (with_reducible refine kon_cond fun R1 R2 h1 h2 => ?_
           dsimp only [go_sem]
           first
             | (with_reducible refine h1 ?_; clear h1 h2 R1 R2)
             | (with_reducible refine h2 ?_; clear h1 h2 R1 R2)
             | ((split <;> rename_i hb <;> first
                 | (with_reducible refine h1 ?_; clear h1 h2 R1 R2; try simp only [hb])
                 | (with_reducible refine h2 ?_; clear h1 h2 R1 R2; try simp only [hb])) <;> (try simp only [decide_eq_true_eq, decide_eq_false_iff_not, beq_iff_eq, beq_eq_false_iff_ne, bne_iff_ne, bne_eq_false_iff_eq, Bool.not_eq_true, Bool.not_eq_false, Bool.not_eq_eq_eq_not, Bool.not_true, Bool.not_false, ne_eq, Int.not_lt, Int.not_le, eq_self, not_true_eq_false, not_false_eq_true, decide_true, decide_false, Bool.and_eq_true, Bool.or_eq_true, Bool.and_eq_false_iff, Bool.or_eq_false_iff, gt_iff_lt, ge_iff_le, Bool.false_eq_true, Bool.true_eq_false, reduceCtorEq, or_false, false_or, or_true, true_or, false_and, and_false] at hb; try (exfalso; omega))))
        | (with_reducible refine kon_rounds (a := lp177_0) [0, 2, 3, 9] (fun n9 s9 => ∃ (j : Int), ((k < j) ∧ (j ≤ i) ∧ (lastI (kindP (rd l i).node d) l j.toNat ≤ k)) ∧ n9 = (i - j).toNat ∧ s9.m = [] ∧ s9.t = [.sl .rcd l, nth s9.t 1, .int .i64 i, .int .i64 d, nth s9.t 4, nth s9.t 5, nth s9.t 6, nth s9.t 7, nth s9.t 8, .int .i64 j, nth s9.t 10, nth s9.t 11, nth s9.t 12, nth s9.t 13, nth s9.t 14, nth s9.t 15, nth s9.t 16, nth s9.t 17, nth s9.t 18, nth s9.t 19, nth s9.t 20, nth s9.t 21, nth s9.t 22, nth s9.t 23, nth s9.t 24, nth s9.t 25, nth s9.t 26, nth s9.t 27, nth s9.t 28, nth s9.t 29, nth s9.t 30, nth s9.t 31, nth s9.t 32, nth s9.t 33, nth s9.t 34, nth s9.t 35, nth s9.t 36]) ?_ ?_
           all_goals first
             | (rintro n9 ⟨t9, m9⟩ ⟨j, ⟨hI0, hI1, hI2⟩, rfl, hm9, ht9⟩
                dsimp only at hm9 ht9
                subst hm9
                rw [ht9]
                clear ht9
                dsimp only [lp177_0])
             | (dsimp only [go_sem, Nat.reduceAdd, Nat.reduceMul, Nat.reduceSub, Nat.reduceBEq, Nat.reduceLeDiff, Nat.reduceEqDiff, ↓dreduceIte, toG]
                refine ⟨_, _, ⟨?_, ?_, ?_⟩, rfl, rfl, rfl⟩))
        | (with_reducible refine loop_again (keep := [0, 2, 3, 9]) ?_
           dsimp only [go_sem, Nat.reduceAdd, Nat.reduceMul, Nat.reduceSub, Nat.reduceBEq, Nat.reduceLeDiff, Nat.reduceEqDiff, ↓dreduceIte, toG]
           refine ⟨_, ?_, _, ⟨?_, ?_, ?_⟩, rfl, rfl, rfl⟩)
      all_goals first
        | (dsimp only [kon]
           with_reducible refine hQ _ _ _ ?_
           dsimp only [kon, endQ, af177, conQuiet, go_sem, Nat.reduceAdd, Nat.reduceMul, Nat.reduceSub, Nat.reduceBEq, Nat.reduceLeDiff, Nat.reduceEqDiff, ↓dreduceIte, toG]
           try simp (disch := first | omega | (simp only [List.length_set, List.length_append, List.length_cons, List.length_nil, List.length_replicate]; omega)) only [guardP_T, guardP_pos, iteN, rd_set, List.set_set, List.length_set, eta_fact, eta_rumor, eta_doubt, eta_item, eta_rec, eta_due, look, look0, rd_toNat, wrap64, Int.toNat_natCast, Nat.zero_add, List.take_length, List.drop_zero, and_self, setB_len, true_and, and_true]
           try dsimp only [go_sem, Nat.reduceAdd, Nat.reduceMul, Nat.reduceSub, Nat.reduceBEq, Nat.reduceLeDiff, Nat.reduceEqDiff, ↓dreduceIte, toG])
        | skip
      all_goals try first
        | omega
        | (simp; done)
        | (simp; omega)
      all_goals first
        | (have := lastI_lt (kindP (rd l i).node d) l (k + 1).toNat
           omega)
        | (rw [lastI_step (by omega), if_neg (by simp_all [kindP])]
           exact hI2)
        | (have := lastI_hit (p := kindP (rd l i).node d) (l := l) (n := i.toNat) (k := j) (by omega) (by omega) (by simp_all [kindP])
           simp only [quietB]
           rw [decide_eq_false (by omega)]
           done)
        | (have hj : j = i := by omega
           rw [hj] at hI2
           simp only [quietB]
           rw [decide_eq_true hI2]
           done)
    · simp at h'

end Go.Proofs.Ytnghlmogcbmlfaa
