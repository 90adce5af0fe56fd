/- What breaks a clause: the specification. -/
import Derived.Test.YtnghlmogcbmlfaaFitsE
namespace Go.Proofs.Ytnghlmogcbmlfaa
set_option linter.unusedVariables false
set_option linter.unusedSimpArgs false
set_option linter.unnecessarySimpa false

def conRise : Con := ⟨[.imm .rcd, .v], .v, fun as => match as with
  | [.sl .rcd l, .int .i64 i] => guardP (0 ≤ i ∧ i < l.length) (some (.int .i64 (riseI (riseP (rd l i)) (startP (rd l i).node) l i.toNat), []))
  | _ => none⟩

def conTwin : Con := ⟨[.imm .rcd, .v], .v, fun as => match as with
  | [.sl .rcd l, .int .i64 i] => guardP (0 ≤ i ∧ i < l.length) (some (.int .i64 (lastI (sameP (rd l i)) l i.toNat), []))
  | _ => none⟩

def conBorn : Con := ⟨[.imm .rcd, .v], .v, fun as => match as with
  | [.sl .rcd l, .int .i64 i] => guardP (0 ≤ i ∧ i < l.length) (some (.int .i64 (firstI (bornP (rd l i).node (rd l i).a) (l.take i.toNat) 0), []))
  | _ => none⟩

def conSent : Con := ⟨[.imm .rcd, .v], .v, fun as => match as with
  | [.sl .rcd l, .int .i64 i] => guardP (0 ≤ i ∧ i < l.length) (some (.bool ((l.take i.toNat).any (sentP (rd l i))), []))
  | _ => none⟩

def conKnown : Con := ⟨[.imm .rcd, .v, .v], .v, fun as => match as with
  | [.sl .rcd l, .int .i64 i, .int .i64 c] => guardP (0 ≤ i ∧ i < l.length) (some (.bool ((l.take i.toNat).any (knownP c (rd l i))), []))
  | _ => none⟩

def conBreaksS : Con := ⟨[.imm .rcd, .v, .v], .v, fun as => match as with
  | [.sl .rcd l, .int .i64 i, .int .i64 c] => guardP (0 ≤ i ∧ i < l.length) (some (.bool (breaksS l i c), []))
  | _ => none⟩

/-- What is so of one ahead of a place. -/
def anyI (p : Rec → Bool) (l : List Rec) (i : Int) : Bool := (l.take i.toNat).any p

theorem anyI_step {p : Rec → Bool} {l : List Rec} {k : Int} (h0 : 0 ≤ k) (h1 : k < l.length) : anyI p l (k + 1) = (anyI p l k || p (rd l k)) := by
  unfold anyI
  rw [take_rd h0 h1, List.any_append]
  simp

theorem anyI_mono {p : Rec → Bool} {l : List Rec} {k i : Int} (h : k ≤ i) (hk : anyI p l k = true) : anyI p l i = true := by
  unfold anyI at *
  rw [List.any_eq_true] at *
  obtain ⟨x, hx, hp⟩ := hk
  exact ⟨x, (List.take_sublist_take_left (by omega)).subset hx, hp⟩

theorem anyI_hit {p : Rec → Bool} {l : List Rec} {k i : Int} (h0 : 0 ≤ k) (h1 : k < i) (h2 : i ≤ l.length) (hp : p (rd l k) = true) : anyI p l i = true :=
  anyI_mono (k := k + 1) (by omega) (by rw [anyI_step h0 (by omega), hp, Bool.or_true])

theorem anyI_go {p : Rec → Bool} {l : List Rec} {k : Int} (h0 : 0 ≤ k) (h1 : k < l.length) (h : anyI p l k = false) (hp : p (rd l k) = false) : anyI p l (k + 1) = false := by
  rw [anyI_step h0 h1, h, hp]
  rfl

theorem firstI_none {p : Rec → Bool} (l : List Rec) (n : Int) (h : l.any p = false) : firstI p l n = -1 := by
  induction l generalizing n with
  | nil => rfl
  | cons x r ih =>
    simp only [List.any_cons, Bool.or_eq_false_iff] at h
    rw [firstI, h.1, ih _ h.2]
    rfl

theorem firstI_hit {p : Rec → Bool} (a : List Rec) (x : Rec) (r : List Rec) (n : Int) (h : a.any p = false) (hx : p x = true) : firstI p (a ++ x :: r) n = n + a.length := by
  induction a generalizing n with
  | nil => simp [firstI, hx]
  | cons y a ih =>
    simp only [List.any_cons, Bool.or_eq_false_iff] at h
    rw [List.cons_append, firstI, h.1, if_neg (by simp), ih _ h.2, List.length_cons]
    omega

theorem born_hit {p : Rec → Bool} {l : List Rec} {k i : Int} (h0 : 0 ≤ k) (h1 : k < i) (h2 : i ≤ l.length) (h : anyI p l k = false) (hp : p (rd l k) = true) : firstI p (l.take i.toNat) 0 = k := by
  have e : l.take i.toNat = l.take k.toNat ++ rd l k :: (l.take i.toNat).drop (k + 1).toNat := by
    have h3 : (l.take i.toNat).take k.toNat = l.take k.toNat := by rw [List.take_take, Nat.min_eq_left (by omega)]
    have h4 : rd (l.take i.toNat) k = rd l k := by
      rw [rd_eq h0 (by simp; omega), rd_eq h0 (by omega), List.getElem_take]
    rw [← h3, ← h4, ← drop_rd h0 (by simp; omega), List.take_append_drop]
  rw [e, firstI_hit _ _ _ _ h hp, List.length_take]
  omega

def tb175 : Tab := fun f => match f with
  | 179 => some conLeast
  | _ => none

theorem tb175_179 : tb175 179 = some conLeast := rfl

-- loop.example/g00678/spec.l12Rise hows [(4, [.any, .any, .any, .any, .any, .any, .any, .any, .any, .any, .any, .any, .any, .any, .any, .any, .any, .any, .any], []), (6, [.any, .any, .any, .any, .any, .any, .any, .any, .any, .any, .any, .any, .any, .any, .any, .any, .any, .any, .any, .any, .any, .any, .any, .any, .any, .any, .any, .any, .any, .any, .any, .any, .any, .any, .any, .any, .any, .any, .any, .any, .any, .pure, .any], [])]
def lp175_0 : AC := .seq (.seq (.reg [⟨some 8, .mv (.t 5), none⟩,
        ⟨some 9, .bin .geq (.t 8) (.i 0), none⟩])
      (.cond (.t 9)
        (.skip)
        (.exit 0)))
      (.seq (.block 1 (.seq (.seq (.reg [⟨some 12, .mv (.t 0), none⟩,
          ⟨some 13, .mv (.t 5), none⟩,
          ⟨some 14, .ia .rcd (.t 12) (.t 13), none⟩,
          ⟨some 15, .fa 1 (.t 14), none⟩,
          ⟨some 16, .ld false 1 (.t 15), none⟩,
          ⟨some 17, .mv (.t 0), none⟩,
          ⟨some 18, .mv (.t 1), none⟩,
          ⟨some 19, .ia .rcd (.t 17) (.t 18), none⟩,
          ⟨some 20, .fa 1 (.t 19), none⟩,
          ⟨some 21, .ld false 1 (.t 20), none⟩,
          ⟨some 22, .bin .eql (.t 16) (.t 21), none⟩,
          ⟨some 23, .mv (.t 22), none⟩,
          ⟨some 24, .mv (.t 0), some (23, true)⟩,
          ⟨some 25, .mv (.t 5), some (23, true)⟩,
          ⟨some 26, .ia .rcd (.t 24) (.t 25), some (23, true)⟩,
          ⟨some 27, .fa 2 (.t 26), some (23, true)⟩,
          ⟨some 28, .ld false 1 (.t 27), some (23, true)⟩,
          ⟨some 29, .bin .eql (.t 28) (.i 1), some (23, true)⟩,
          ⟨some 30, .pick (.t 23) (.t 29) (.b false), none⟩])
        (.cond (.t 30)
          (.seq (.reg [⟨some 4, .mv (.i (-1)), none⟩])
          (.ret))
          (.skip)))
        (.seq (.reg [⟨some 31, .mv (.t 0), none⟩,
          ⟨some 32, .mv (.t 5), none⟩,
          ⟨some 33, .ia .rcd (.t 31) (.t 32), none⟩,
          ⟨some 34, .fa 1 (.t 33), none⟩,
          ⟨some 35, .ld false 1 (.t 34), none⟩,
          ⟨some 36, .mv (.t 0), none⟩,
          ⟨some 37, .mv (.t 1), none⟩,
          ⟨some 38, .ia .rcd (.t 36) (.t 37), none⟩,
          ⟨some 39, .fa 1 (.t 38), none⟩,
          ⟨some 40, .ld false 1 (.t 39), none⟩,
          ⟨some 41, .bin .eql (.t 35) (.t 40), none⟩,
          ⟨some 42, .mv (.t 41), none⟩,
          ⟨some 43, .mv (.t 0), some (42, true)⟩,
          ⟨some 44, .mv (.t 5), some (42, true)⟩,
          ⟨some 45, .ia .rcd (.t 43) (.t 44), some (42, true)⟩,
          ⟨some 46, .fa 2 (.t 45), some (42, true)⟩,
          ⟨some 47, .ld false 1 (.t 46), some (42, true)⟩,
          ⟨some 48, .bin .eql (.t 47) (.i 5), some (42, true)⟩,
          ⟨some 49, .pick (.t 42) (.t 48) (.b false), none⟩,
          ⟨some 50, .mv (.t 49), none⟩,
          ⟨some 51, .mv (.t 0), some (50, true)⟩,
          ⟨some 52, .mv (.t 5), some (50, true)⟩,
          ⟨some 53, .ia .rcd (.t 51) (.t 52), some (50, true)⟩,
          ⟨some 54, .fa 3 (.t 53), some (50, true)⟩,
          ⟨some 55, .ld false 1 (.t 54), some (50, true)⟩,
          ⟨some 56, .mv (.t 0), some (50, true)⟩,
          ⟨some 57, .mv (.t 1), some (50, true)⟩,
          ⟨some 58, .ia .rcd (.t 56) (.t 57), some (50, true)⟩,
          ⟨some 59, .fa 3 (.t 58), some (50, true)⟩,
          ⟨some 60, .ld false 1 (.t 59), some (50, true)⟩,
          ⟨some 61, .bin .eql (.t 55) (.t 60), some (50, true)⟩,
          ⟨some 62, .pick (.t 50) (.t 61) (.b false), none⟩,
          ⟨some 63, .mv (.t 62), none⟩,
          ⟨some 64, .mv (.t 0), some (63, true)⟩,
          ⟨some 65, .mv (.t 5), some (63, true)⟩,
          ⟨some 66, .ia .rcd (.t 64) (.t 65), some (63, true)⟩,
          ⟨some 67, .ld true 6 (.t 66), some (63, true)⟩,
          ⟨some 68, .mv (.t 0), some (63, true)⟩,
          ⟨some 69, .mv (.t 1), some (63, true)⟩,
          ⟨some 70, .ia .rcd (.t 68) (.t 69), some (63, true)⟩,
          ⟨some 71, .ld true 6 (.t 70), some (63, true)⟩,
          ⟨some 72, .callp 179 [(.t 67), (.t 71)], some (63, true)⟩,
          ⟨some 73, .pick (.t 63) (.t 72) (.b false), none⟩])
        (.cond (.t 73)
          (.seq (.reg [⟨some 74, .mv (.t 5), none⟩,
            ⟨some 4, .mv (.t 74), none⟩])
          (.ret))
          (.skip)))))
      (.reg [⟨some 10, .mv (.t 5), none⟩,
        ⟨some 11, .bin .sub (.t 10) (.i 1), none⟩,
        ⟨some 5, .mv (.t 11), none⟩]))
def af175 : AF := ⟨75, [.t 4],
  .seq (.reg [⟨some 4, .mv (.i 0), none⟩])
  (.seq (.seq (.reg [⟨some 6, .mv (.t 1), none⟩,
    ⟨some 7, .bin .sub (.t 6) (.i 1), none⟩,
    ⟨some 5, .mv (.t 7), none⟩])
  (.block 0 (.loop lp175_0)))
  (.seq (.reg [⟨some 4, .mv (.i (-1)), none⟩])
  (.ret)))⟩

set_option maxHeartbeats 4000000 in
theorem does175 (as : List AV) (hok : ok 64 as) : Does tb175 af175 conRise as := by
  cases h : (conRise).run as with
  | none => exact does_none h
  | some out =>
    have h' := h
    simp only [conRise] at h'
    split at h'
    · rename_i l i
      by_cases hp : 0 ≤ i ∧ i < l.length
      case neg => simp [guardP, hp] at h'
      rw [guardP_pos hp] at h'
      obtain ⟨hp1, hp2⟩ := hp
      simp only [ok] at hok
      obtain ⟨⟨hlen, _⟩, _⟩ := hok
      simp only [Option.some.injEq] at h'
      subst h'
      have hmo : (most : Int) = 1099511627776 := rfl
      have hml : (maxLen : Int) = 9223372036854775807 := rfl
      with_reducible refine does_by h fun Q hQ => ?_
      clear h
      dsimp only [af175, conRise, go_sem, Nat.reduceAdd, Nat.reduceMul, Nat.reduceSub, Nat.reduceBEq, Nat.reduceLeDiff, Nat.reduceEqDiff, ↓dreduceIte, toG, tb175_179, conLeast]
      repeat' first
        | with_reducible refine kon_seq ?_
        | with_reducible refine kon_nil ?_
        | with_reducible refine kon_any ?_ ?_
        | with_reducible exact kon_any_nil
        | with_reducible refine kon_skip ?_
        | with_reducible refine kon_block ?_
        | with_reducible refine kon_ret ?_
        | with_reducible refine kon_exit ?_
        | with_reducible refine kon_past_ret ?_
        | with_reducible refine kon_past_exit ?_
        | with_reducible refine kon_blk_ret ?_
        | with_reducible refine kon_blk_end ?_
        | with_reducible refine kon_blk_exit ?_
        | (with_reducible refine kon_blk_past ?_ ?_
           · decide)
        | with_reducible refine loop_exit ?_
        | with_reducible refine loop_ret ?_
        | with_reducible refine mid_exit ?_
        | with_reducible refine mid_ret ?_
        | ((first | with_reducible refine kon_bin fun R hR => ?_ | with_reducible refine kon_conv fun R hR => ?_)
           dsimp only [go_sem, Nat.reduceAdd, Nat.reduceMul, Nat.reduceSub, Nat.reduceBEq, Nat.reduceLeDiff, Nat.reduceEqDiff, ↓dreduceIte, toG, tb175_179, conLeast]
           try simp (disch := first | omega | (simp only [List.length_set, List.length_append, List.length_cons, List.length_nil, List.length_replicate]; omega)) only [guardP_T, guardP_pos, iteN, rd_set, List.set_set, List.length_set, eta_fact, eta_rumor, eta_doubt, eta_item, eta_rec, eta_due, look, look0, rd_toNat, wrap64, Int.toNat_natCast, Nat.zero_add, List.take_length, List.drop_zero, and_self, setB_len, true_and, and_true]
           with_reducible refine hR _ ?_
           clear hR R)
        | (with_reducible refine kon_ins fun R hR => ?_
           dsimp only [go_sem, Nat.reduceAdd, Nat.reduceMul, Nat.reduceSub, Nat.reduceBEq, Nat.reduceLeDiff, Nat.reduceEqDiff, ↓dreduceIte, toG, tb175_179, conLeast]
           first
             | with_reducible refine hR _ ?_
             | (simp (disch := first | omega | (simp only [List.length_set, List.length_append, List.length_cons, List.length_nil, List.length_replicate]; omega)) only [guardP_T, guardP_pos, iteN, rd_set, List.set_set, List.length_set, eta_fact, eta_rumor, eta_doubt, eta_item, eta_rec, eta_due, look, look0, rd_toNat, wrap64, Int.toNat_natCast, Nat.zero_add, List.take_length, List.drop_zero, and_self, setB_len, true_and, and_true]
                try dsimp only [go_sem, Nat.reduceAdd, Nat.reduceMul, Nat.reduceSub, Nat.reduceBEq, Nat.reduceLeDiff, Nat.reduceEqDiff, ↓dreduceIte, toG, tb175_179, conLeast]
                try simp (disch := first | omega | (simp only [List.length_set, List.length_append, List.length_cons, List.length_nil, List.length_replicate]; omega)) only [guardP_T, guardP_pos, iteN, rd_set, List.set_set, List.length_set, eta_fact, eta_rumor, eta_doubt, eta_item, eta_rec, eta_due, look, look0, rd_toNat, wrap64, Int.toNat_natCast, Nat.zero_add, List.take_length, List.drop_zero, and_self, setB_len, true_and, and_true]
                with_reducible refine hR _ ?_)
           clear hR R)
        | (with_reducible refine kon_g_run ?_ ?_
           · dsimp only [nth] <;> with_reducible rfl)
        | (with_reducible refine kon_g_skip ?_ ?_
           · dsimp only [nth, not_t', not_f'] <;> with_reducible rfl
           dsimp only [go_sem])
        | (with_reducible refine kon_g_undef ?_ ?_
           · dsimp only [nth] <;> with_reducible rfl
           dsimp only [go_sem])
        | (with_reducible refine kon_g fun R hR => ?_
           dsimp only [go_sem, Nat.reduceAdd, Nat.reduceMul, Nat.reduceSub, Nat.reduceBEq, Nat.reduceLeDiff, Nat.reduceEqDiff, ↓dreduceIte, toG, tb175_179, conLeast]
           split <;> (rename_i hb; with_reducible refine hR _ ?_; clear hR R; try simp only [hb]; try simp only [decide_eq_true_eq, decide_eq_false_iff_not, beq_iff_eq, beq_eq_false_iff_ne, bne_iff_ne, bne_eq_false_iff_eq, Bool.not_eq_true, Bool.not_eq_false, Bool.not_eq_eq_eq_not, Bool.not_true, Bool.not_false, ne_eq, Int.not_lt, Int.not_le, eq_self, not_true_eq_false, not_false_eq_true, decide_true, decide_false, Bool.and_eq_true, Bool.or_eq_true, Bool.and_eq_false_iff, Bool.or_eq_false_iff, gt_iff_lt, ge_iff_le, Bool.false_eq_true, Bool.true_eq_false, reduceCtorEq, or_false, false_or, or_true, true_or, false_and, and_false] at hb; try (exfalso; omega)))
        | (with_reducible refine kon_cond fun R1 R2 h1 h2 => ?_
           dsimp only [go_sem]
           first
             | (with_reducible refine h1 ?_; clear h1 h2 R1 R2)
             | (with_reducible refine h2 ?_; clear h1 h2 R1 R2)
             | ((split <;> rename_i hb <;> first
                 | (with_reducible refine h1 ?_; clear h1 h2 R1 R2; try simp only [hb])
                 | (with_reducible refine h2 ?_; clear h1 h2 R1 R2; try simp only [hb])) <;> (try simp only [decide_eq_true_eq, decide_eq_false_iff_not, beq_iff_eq, beq_eq_false_iff_ne, bne_iff_ne, bne_eq_false_iff_eq, Bool.not_eq_true, Bool.not_eq_false, Bool.not_eq_eq_eq_not, Bool.not_true, Bool.not_false, ne_eq, Int.not_lt, Int.not_le, eq_self, not_true_eq_false, not_false_eq_true, decide_true, decide_false, Bool.and_eq_true, Bool.or_eq_true, Bool.and_eq_false_iff, Bool.or_eq_false_iff, gt_iff_lt, ge_iff_le, Bool.false_eq_true, Bool.true_eq_false, reduceCtorEq, or_false, false_or, or_true, true_or, false_and, and_false] at hb; try (exfalso; omega))))
        | (with_reducible refine kon_rounds (a := lp175_0) [0, 1, 5] (fun n9 s9 => ∃ (k : Int), ((-1 ≤ k) ∧ (k < i) ∧ (riseI (riseP (rd l i)) (startP (rd l i).node) l i.toNat = riseI (riseP (rd l i)) (startP (rd l i).node) l (k + 1).toNat)) ∧ n9 = (k + 1).toNat ∧ s9.m = [] ∧ s9.t = [.sl .rcd l, .int .i64 i, nth s9.t 2, nth s9.t 3, nth s9.t 4, .int .i64 k, nth s9.t 6, nth s9.t 7, nth s9.t 8, nth s9.t 9, nth s9.t 10, nth s9.t 11, nth s9.t 12, nth s9.t 13, nth s9.t 14, nth s9.t 15, nth s9.t 16, nth s9.t 17, nth s9.t 18, nth s9.t 19, nth s9.t 20, nth s9.t 21, nth s9.t 22, nth s9.t 23, nth s9.t 24, nth s9.t 25, nth s9.t 26, nth s9.t 27, nth s9.t 28, nth s9.t 29, nth s9.t 30, nth s9.t 31, nth s9.t 32, nth s9.t 33, nth s9.t 34, nth s9.t 35, nth s9.t 36, nth s9.t 37, nth s9.t 38, nth s9.t 39, nth s9.t 40, nth s9.t 41, nth s9.t 42, nth s9.t 43, nth s9.t 44, nth s9.t 45, nth s9.t 46, nth s9.t 47, nth s9.t 48, nth s9.t 49, nth s9.t 50, nth s9.t 51, nth s9.t 52, nth s9.t 53, nth s9.t 54, nth s9.t 55, nth s9.t 56, nth s9.t 57, nth s9.t 58, nth s9.t 59, nth s9.t 60, nth s9.t 61, nth s9.t 62, nth s9.t 63, nth s9.t 64, nth s9.t 65, nth s9.t 66, nth s9.t 67, nth s9.t 68, nth s9.t 69, nth s9.t 70, nth s9.t 71, nth s9.t 72, nth s9.t 73, nth s9.t 74]) ?_ ?_
           all_goals first
             | (rintro n9 ⟨t9, m9⟩ ⟨k, ⟨hI0, hI1, hI2⟩, rfl, hm9, ht9⟩
                dsimp only at hm9 ht9
                subst hm9
                rw [ht9]
                clear ht9
                dsimp only [lp175_0])
             | (dsimp only [go_sem, Nat.reduceAdd, Nat.reduceMul, Nat.reduceSub, Nat.reduceBEq, Nat.reduceLeDiff, Nat.reduceEqDiff, ↓dreduceIte, toG, tb175_179, conLeast]
                refine ⟨_, _, ⟨?_, ?_, ?_⟩, rfl, rfl, rfl⟩))
        | (with_reducible refine loop_again (keep := [0, 1, 5]) ?_
           dsimp only [go_sem, Nat.reduceAdd, Nat.reduceMul, Nat.reduceSub, Nat.reduceBEq, Nat.reduceLeDiff, Nat.reduceEqDiff, ↓dreduceIte, toG, tb175_179, conLeast]
           refine ⟨_, ?_, _, ⟨?_, ?_, ?_⟩, rfl, rfl, rfl⟩)
      all_goals first
        | (dsimp only [kon]
           with_reducible refine hQ _ _ _ ?_
           dsimp only [kon, endQ, af175, conRise, go_sem, Nat.reduceAdd, Nat.reduceMul, Nat.reduceSub, Nat.reduceBEq, Nat.reduceLeDiff, Nat.reduceEqDiff, ↓dreduceIte, toG, tb175_179, conLeast]
           try simp (disch := first | omega | (simp only [List.length_set, List.length_append, List.length_cons, List.length_nil, List.length_replicate]; omega)) only [guardP_T, guardP_pos, iteN, rd_set, List.set_set, List.length_set, eta_fact, eta_rumor, eta_doubt, eta_item, eta_rec, eta_due, look, look0, rd_toNat, wrap64, Int.toNat_natCast, Nat.zero_add, List.take_length, List.drop_zero, and_self, setB_len, true_and, and_true]
           try dsimp only [go_sem, Nat.reduceAdd, Nat.reduceMul, Nat.reduceSub, Nat.reduceBEq, Nat.reduceLeDiff, Nat.reduceEqDiff, ↓dreduceIte, toG, tb175_179, conLeast])
        | skip
      all_goals try first
        | omega
        | (simp; done)
        | (simp; omega)
      all_goals first
        | omega
        | (rw [show i - 1 + 1 = i by omega]; done)
        | (rw [hI2, riseI_step (by omega)]
           have hx : startP (rd l i).node (rd l k) = true := by simp_all [startP]
           simp [hx]
           done)
        | (rw [hI2, riseI_step (by omega)]
           have hx : startP (rd l i).node (rd l k) = false := by simp_all [startP]
           have hy : riseP (rd l i) (rd l k) = true := by simp_all [riseP]
           simp [hx, hy]
           done)
        | (rw [hI2, riseI_step (by omega)]
           have hx : startP (rd l i).node (rd l k) = false := by simp_all [startP]
           have hy : riseP (rd l i) (rd l k) = false := by simp_all [riseP]
           simp [hx, hy]
           done)
        | (rw [hI2, show k = -1 by omega]; rfl)
    · simp at h'

-- loop.example/g00678/spec.l12Twin hows [(4, [.any, .any, .any, .any, .any, .any, .any, .any, .any, .any, .any, .any, .any, .any, .any, .any, .any, .any, .any, .any, .any, .any, .any, .any], [])]
def lp173_0 : AC := .seq (.seq (.reg [⟨some 8, .mv (.t 5), none⟩,
        ⟨some 9, .bin .geq (.t 8) (.i 0), none⟩])
      (.cond (.t 9)
        (.skip)
        (.exit 0)))
      (.seq (.block 1 (.seq (.reg [⟨some 12, .mv (.t 0), none⟩,
          ⟨some 13, .mv (.t 5), none⟩,
          ⟨some 14, .ia .rcd (.t 12) (.t 13), none⟩,
          ⟨some 15, .fa 2 (.t 14), none⟩,
          ⟨some 16, .ld false 1 (.t 15), none⟩,
          ⟨some 17, .mv (.t 0), none⟩,
          ⟨some 18, .mv (.t 1), none⟩,
          ⟨some 19, .ia .rcd (.t 17) (.t 18), none⟩,
          ⟨some 20, .fa 2 (.t 19), none⟩,
          ⟨some 21, .ld false 1 (.t 20), none⟩,
          ⟨some 22, .bin .eql (.t 16) (.t 21), none⟩,
          ⟨some 23, .mv (.t 22), none⟩,
          ⟨some 24, .mv (.t 0), some (23, true)⟩,
          ⟨some 25, .mv (.t 5), some (23, true)⟩,
          ⟨some 26, .ia .rcd (.t 24) (.t 25), some (23, true)⟩,
          ⟨some 27, .fa 3 (.t 26), some (23, true)⟩,
          ⟨some 28, .ld false 1 (.t 27), some (23, true)⟩,
          ⟨some 29, .mv (.t 0), some (23, true)⟩,
          ⟨some 30, .mv (.t 1), some (23, true)⟩,
          ⟨some 31, .ia .rcd (.t 29) (.t 30), some (23, true)⟩,
          ⟨some 32, .fa 3 (.t 31), some (23, true)⟩,
          ⟨some 33, .ld false 1 (.t 32), some (23, true)⟩,
          ⟨some 34, .bin .eql (.t 28) (.t 33), some (23, true)⟩,
          ⟨some 35, .pick (.t 23) (.t 34) (.b false), none⟩])
        (.cond (.t 35)
          (.seq (.reg [⟨some 36, .mv (.t 5), none⟩,
            ⟨some 4, .mv (.t 36), none⟩])
          (.ret))
          (.skip))))
      (.reg [⟨some 10, .mv (.t 5), none⟩,
        ⟨some 11, .bin .sub (.t 10) (.i 1), none⟩,
        ⟨some 5, .mv (.t 11), none⟩]))
def af173 : AF := ⟨37, [.t 4],
  .seq (.reg [⟨some 4, .mv (.i 0), none⟩])
  (.seq (.seq (.reg [⟨some 6, .mv (.t 1), none⟩,
    ⟨some 7, .bin .sub (.t 6) (.i 1), none⟩,
    ⟨some 5, .mv (.t 7), none⟩])
  (.block 0 (.loop lp173_0)))
  (.seq (.reg [⟨some 4, .mv (.i (-1)), none⟩])
  (.ret)))⟩

set_option maxHeartbeats 4000000 in
theorem does173 (as : List AV) (hok : ok 64 as) : Does tbNone af173 conTwin as := by
  cases h : (conTwin).run as with
  | none => exact does_none h
  | some out =>
    have h' := h
    simp only [conTwin] at h'
    split at h'
    · rename_i l i
      by_cases hp : 0 ≤ i ∧ i < l.length
      case neg => simp [guardP, hp] at h'
      rw [guardP_pos hp] at h'
      obtain ⟨hp1, hp2⟩ := hp
      simp only [ok] at hok
      obtain ⟨⟨hlen, _⟩, _⟩ := hok
      simp only [Option.some.injEq] at h'
      subst h'
      have hmo : (most : Int) = 1099511627776 := rfl
      have hml : (maxLen : Int) = 9223372036854775807 := rfl
      with_reducible refine does_by h fun Q hQ => ?_
      clear h
      dsimp only [af173, conTwin, go_sem, Nat.reduceAdd, Nat.reduceMul, Nat.reduceSub, Nat.reduceBEq, Nat.reduceLeDiff, Nat.reduceEqDiff, ↓dreduceIte, toG]
      repeat' first
        | with_reducible refine kon_seq ?_
        | with_reducible refine kon_nil ?_
        | with_reducible refine kon_any ?_ ?_
        | with_reducible exact kon_any_nil
        | with_reducible refine kon_skip ?_
        | with_reducible refine kon_block ?_
        | with_reducible refine kon_ret ?_
        | with_reducible refine kon_exit ?_
        | with_reducible refine kon_past_ret ?_
        | with_reducible refine kon_past_exit ?_
        | with_reducible refine kon_blk_ret ?_
        | with_reducible refine kon_blk_end ?_
        | with_reducible refine kon_blk_exit ?_
        | (with_reducible refine kon_blk_past ?_ ?_
           · decide)
        | with_reducible refine loop_exit ?_
        | with_reducible refine loop_ret ?_
        | with_reducible refine mid_exit ?_
        | with_reducible refine mid_ret ?_
        | ((first | with_reducible refine kon_bin fun R hR => ?_ | with_reducible refine kon_conv fun R hR => ?_)
           dsimp only [go_sem, Nat.reduceAdd, Nat.reduceMul, Nat.reduceSub, Nat.reduceBEq, Nat.reduceLeDiff, Nat.reduceEqDiff, ↓dreduceIte, toG]
           try simp (disch := first | omega | (simp only [List.length_set, List.length_append, List.length_cons, List.length_nil, List.length_replicate]; omega)) only [guardP_T, guardP_pos, iteN, rd_set, List.set_set, List.length_set, eta_fact, eta_rumor, eta_doubt, eta_item, eta_rec, eta_due, look, look0, rd_toNat, wrap64, Int.toNat_natCast, Nat.zero_add, List.take_length, List.drop_zero, and_self, setB_len, true_and, and_true]
           with_reducible refine hR _ ?_
           clear hR R)
        | (with_reducible refine kon_ins fun R hR => ?_
           dsimp only [go_sem, Nat.reduceAdd, Nat.reduceMul, Nat.reduceSub, Nat.reduceBEq, Nat.reduceLeDiff, Nat.reduceEqDiff, ↓dreduceIte, toG]
           first
             | with_reducible refine hR _ ?_
             | (simp (disch := first | omega | (simp only [List.length_set, List.length_append, List.length_cons, List.length_nil, List.length_replicate]; omega)) only [guardP_T, guardP_pos, iteN, rd_set, List.set_set, List.length_set, eta_fact, eta_rumor, eta_doubt, eta_item, eta_rec, eta_due, look, look0, rd_toNat, wrap64, Int.toNat_natCast, Nat.zero_add, List.take_length, List.drop_zero, and_self, setB_len, true_and, and_true]
                try dsimp only [go_sem, Nat.reduceAdd, Nat.reduceMul, Nat.reduceSub, Nat.reduceBEq, Nat.reduceLeDiff, Nat.reduceEqDiff, ↓dreduceIte, toG]
                try simp (disch := first | omega | (simp only [List.length_set, List.length_append, List.length_cons, List.length_nil, List.length_replicate]; omega)) only [guardP_T, guardP_pos, iteN, rd_set, List.set_set, List.length_set, eta_fact, eta_rumor, eta_doubt, eta_item, eta_rec, eta_due, look, look0, rd_toNat, wrap64, Int.toNat_natCast, Nat.zero_add, List.take_length, List.drop_zero, and_self, setB_len, true_and, and_true]
                with_reducible refine hR _ ?_)
           clear hR R)
        | (with_reducible refine kon_g_run ?_ ?_
           · dsimp only [nth] <;> with_reducible rfl)
        | (with_reducible refine kon_g_skip ?_ ?_
           · dsimp only [nth, not_t', not_f'] <;> with_reducible rfl
           dsimp only [go_sem])
        | (with_reducible refine kon_g_undef ?_ ?_
           · dsimp only [nth] <;> with_reducible rfl
           dsimp only [go_sem])
        | (with_reducible refine kon_g fun R hR => ?_
           dsimp only [go_sem, Nat.reduceAdd, Nat.reduceMul, Nat.reduceSub, Nat.reduceBEq, Nat.reduceLeDiff, Nat.reduceEqDiff, ↓dreduceIte, toG]
           split <;> (rename_i hb; with_reducible refine hR _ ?_; clear hR R; try simp only [hb]; try simp only [decide_eq_true_eq, decide_eq_false_iff_not, beq_iff_eq, beq_eq_false_iff_ne, bne_iff_ne, bne_eq_false_iff_eq, Bool.not_eq_true, Bool.not_eq_false, Bool.not_eq_eq_eq_not, Bool.not_true, Bool.not_false, ne_eq, Int.not_lt, Int.not_le, eq_self, not_true_eq_false, not_false_eq_true, decide_true, decide_false, Bool.and_eq_true, Bool.or_eq_true, Bool.and_eq_false_iff, Bool.or_eq_false_iff, gt_iff_lt, ge_iff_le, Bool.false_eq_true, Bool.true_eq_false, reduceCtorEq, or_false, false_or, or_true, true_or, false_and, and_false] at hb; try (exfalso; omega)))
        | (with_reducible refine kon_cond fun R1 R2 h1 h2 => ?_
           dsimp only [go_sem]
           first
             | (with_reducible refine h1 ?_; clear h1 h2 R1 R2)
             | (with_reducible refine h2 ?_; clear h1 h2 R1 R2)
             | ((split <;> rename_i hb <;> first
                 | (with_reducible refine h1 ?_; clear h1 h2 R1 R2; try simp only [hb])
                 | (with_reducible refine h2 ?_; clear h1 h2 R1 R2; try simp only [hb])) <;> (try simp only [decide_eq_true_eq, decide_eq_false_iff_not, beq_iff_eq, beq_eq_false_iff_ne, bne_iff_ne, bne_eq_false_iff_eq, Bool.not_eq_true, Bool.not_eq_false, Bool.not_eq_eq_eq_not, Bool.not_true, Bool.not_false, ne_eq, Int.not_lt, Int.not_le, eq_self, not_true_eq_false, not_false_eq_true, decide_true, decide_false, Bool.and_eq_true, Bool.or_eq_true, Bool.and_eq_false_iff, Bool.or_eq_false_iff, gt_iff_lt, ge_iff_le, Bool.false_eq_true, Bool.true_eq_false, reduceCtorEq, or_false, false_or, or_true, true_or, false_and, and_false] at hb; try (exfalso; omega))))
        | (with_reducible refine kon_rounds (a := lp173_0) [0, 1, 5] (fun n9 s9 => ∃ (k : Int), ((-1 ≤ k) ∧ (k < i) ∧ (lastI (sameP (rd l i)) l i.toNat = lastI (sameP (rd l i)) l (k + 1).toNat)) ∧ n9 = (k + 1).toNat ∧ s9.m = [] ∧ s9.t = [.sl .rcd l, .int .i64 i, nth s9.t 2, nth s9.t 3, nth s9.t 4, .int .i64 k, nth s9.t 6, nth s9.t 7, nth s9.t 8, nth s9.t 9, nth s9.t 10, nth s9.t 11, nth s9.t 12, nth s9.t 13, nth s9.t 14, nth s9.t 15, nth s9.t 16, nth s9.t 17, nth s9.t 18, nth s9.t 19, nth s9.t 20, nth s9.t 21, nth s9.t 22, nth s9.t 23, nth s9.t 24, nth s9.t 25, nth s9.t 26, nth s9.t 27, nth s9.t 28, nth s9.t 29, nth s9.t 30, nth s9.t 31, nth s9.t 32, nth s9.t 33, nth s9.t 34, nth s9.t 35, nth s9.t 36]) ?_ ?_
           all_goals first
             | (rintro n9 ⟨t9, m9⟩ ⟨k, ⟨hI0, hI1, hI2⟩, rfl, hm9, ht9⟩
                dsimp only at hm9 ht9
                subst hm9
                rw [ht9]
                clear ht9
                dsimp only [lp173_0])
             | (dsimp only [go_sem, Nat.reduceAdd, Nat.reduceMul, Nat.reduceSub, Nat.reduceBEq, Nat.reduceLeDiff, Nat.reduceEqDiff, ↓dreduceIte, toG]
                refine ⟨_, _, ⟨?_, ?_, ?_⟩, rfl, rfl, rfl⟩))
        | (with_reducible refine loop_again (keep := [0, 1, 5]) ?_
           dsimp only [go_sem, Nat.reduceAdd, Nat.reduceMul, Nat.reduceSub, Nat.reduceBEq, Nat.reduceLeDiff, Nat.reduceEqDiff, ↓dreduceIte, toG]
           refine ⟨_, ?_, _, ⟨?_, ?_, ?_⟩, rfl, rfl, rfl⟩)
      all_goals first
        | (dsimp only [kon]
           with_reducible refine hQ _ _ _ ?_
           dsimp only [kon, endQ, af173, conTwin, go_sem, Nat.reduceAdd, Nat.reduceMul, Nat.reduceSub, Nat.reduceBEq, Nat.reduceLeDiff, Nat.reduceEqDiff, ↓dreduceIte, toG]
           try simp (disch := first | omega | (simp only [List.length_set, List.length_append, List.length_cons, List.length_nil, List.length_replicate]; omega)) only [guardP_T, guardP_pos, iteN, rd_set, List.set_set, List.length_set, eta_fact, eta_rumor, eta_doubt, eta_item, eta_rec, eta_due, look, look0, rd_toNat, wrap64, Int.toNat_natCast, Nat.zero_add, List.take_length, List.drop_zero, and_self, setB_len, true_and, and_true]
           try dsimp only [go_sem, Nat.reduceAdd, Nat.reduceMul, Nat.reduceSub, Nat.reduceBEq, Nat.reduceLeDiff, Nat.reduceEqDiff, ↓dreduceIte, toG])
        | skip
      all_goals try first
        | omega
        | (simp; done)
        | (simp; omega)
      all_goals first
        | omega
        | (rw [show i - 1 + 1 = i by omega]; done)
        | (rw [hI2, lastI_step (by omega)]
           have hx : sameP (rd l i) (rd l k) = true := by simp_all [sameP]
           simp [hx]
           done)
        | (rw [hI2, lastI_step (by omega)]
           have hx : sameP (rd l i) (rd l k) = false := by simp_all [sameP]
           simp [hx]
           done)
        | (rw [hI2, show k = -1 by omega]; rfl)
    · simp at h'

-- loop.example/g00678/spec.l12Sent hows [(4, [.any, .any, .any, .any, .any, .any, .any, .any, .any, .any, .any, .any, .any, .any, .any, .any, .any, .any, .any, .any, .any, .any, .any, .any, .any, .any, .any, .any, .any, .any, .any, .any, .any, .any, .any, .any, .any, .any, .any, .any, .any, .any, .any, .any, .any], [])]
def lp174_0 : AC := .seq (.seq (.reg [⟨some 6, .mv (.t 5), none⟩,
        ⟨some 7, .mv (.t 1), none⟩,
        ⟨some 8, .bin .lss (.t 6) (.t 7), none⟩])
      (.cond (.t 8)
        (.skip)
        (.exit 0)))
      (.seq (.block 1 (.seq (.reg [⟨some 11, .mv (.t 0), none⟩,
          ⟨some 12, .mv (.t 5), none⟩,
          ⟨some 13, .ia .rcd (.t 11) (.t 12), none⟩,
          ⟨some 14, .fa 2 (.t 13), none⟩,
          ⟨some 15, .ld false 1 (.t 14), none⟩,
          ⟨some 16, .bin .eql (.t 15) (.i 3), none⟩,
          ⟨some 17, .mv (.t 16), none⟩,
          ⟨some 18, .mv (.t 0), some (17, true)⟩,
          ⟨some 19, .mv (.t 5), some (17, true)⟩,
          ⟨some 20, .ia .rcd (.t 18) (.t 19), some (17, true)⟩,
          ⟨some 21, .fa 3 (.t 20), some (17, true)⟩,
          ⟨some 22, .ld false 1 (.t 21), some (17, true)⟩,
          ⟨some 23, .mv (.t 0), some (17, true)⟩,
          ⟨some 24, .mv (.t 1), some (17, true)⟩,
          ⟨some 25, .ia .rcd (.t 23) (.t 24), some (17, true)⟩,
          ⟨some 26, .fa 3 (.t 25), some (17, true)⟩,
          ⟨some 27, .ld false 1 (.t 26), some (17, true)⟩,
          ⟨some 28, .bin .eql (.t 22) (.t 27), some (17, true)⟩,
          ⟨some 29, .pick (.t 17) (.t 28) (.b false), none⟩,
          ⟨some 30, .mv (.t 29), none⟩,
          ⟨some 31, .mv (.t 0), some (30, true)⟩,
          ⟨some 32, .mv (.t 5), some (30, true)⟩,
          ⟨some 33, .ia .rcd (.t 31) (.t 32), some (30, true)⟩,
          ⟨some 34, .fa 1 (.t 33), some (30, true)⟩,
          ⟨some 35, .ld false 1 (.t 34), some (30, true)⟩,
          ⟨some 36, .mv (.t 0), some (30, true)⟩,
          ⟨some 37, .mv (.t 1), some (30, true)⟩,
          ⟨some 38, .ia .rcd (.t 36) (.t 37), some (30, true)⟩,
          ⟨some 39, .fa 4 (.t 38), some (30, true)⟩,
          ⟨some 40, .ld false 1 (.t 39), some (30, true)⟩,
          ⟨some 41, .bin .eql (.t 35) (.t 40), some (30, true)⟩,
          ⟨some 42, .pick (.t 30) (.t 41) (.b false), none⟩,
          ⟨some 43, .mv (.t 42), none⟩,
          ⟨some 44, .mv (.t 0), some (43, true)⟩,
          ⟨some 45, .mv (.t 5), some (43, true)⟩,
          ⟨some 46, .ia .rcd (.t 44) (.t 45), some (43, true)⟩,
          ⟨some 47, .fa 4 (.t 46), some (43, true)⟩,
          ⟨some 48, .ld false 1 (.t 47), some (43, true)⟩,
          ⟨some 49, .mv (.t 0), some (43, true)⟩,
          ⟨some 50, .mv (.t 1), some (43, true)⟩,
          ⟨some 51, .ia .rcd (.t 49) (.t 50), some (43, true)⟩,
          ⟨some 52, .fa 1 (.t 51), some (43, true)⟩,
          ⟨some 53, .ld false 1 (.t 52), some (43, true)⟩,
          ⟨some 54, .bin .eql (.t 48) (.t 53), some (43, true)⟩,
          ⟨some 55, .pick (.t 43) (.t 54) (.b false), none⟩])
        (.cond (.t 55)
          (.seq (.reg [⟨some 4, .mv (.b true), none⟩])
          (.ret))
          (.skip))))
      (.reg [⟨some 9, .mv (.t 5), none⟩,
        ⟨some 10, .bin .add (.t 9) (.i 1), none⟩,
        ⟨some 5, .mv (.t 10), none⟩]))
def af174 : AF := ⟨56, [.t 4],
  .seq (.reg [⟨some 4, .mv (.b false), none⟩])
  (.seq (.seq (.reg [⟨some 5, .mv (.i 0), none⟩])
  (.block 0 (.loop lp174_0)))
  (.seq (.reg [⟨some 4, .mv (.b false), none⟩])
  (.ret)))⟩

set_option maxHeartbeats 4000000 in
theorem does174 (as : List AV) (hok : ok 64 as) : Does tbNone af174 conSent as := by
  cases h : (conSent).run as with
  | none => exact does_none h
  | some out =>
    have h' := h
    simp only [conSent] at h'
    split at h'
    · rename_i l i
      by_cases hp : 0 ≤ i ∧ i < l.length
      case neg => simp [guardP, hp] at h'
      rw [guardP_pos hp] at h'
      obtain ⟨hp1, hp2⟩ := hp
      simp only [ok] at hok
      obtain ⟨⟨hlen, _⟩, _⟩ := hok
      simp only [Option.some.injEq] at h'
      subst h'
      have hmo : (most : Int) = 1099511627776 := rfl
      have hml : (maxLen : Int) = 9223372036854775807 := rfl
      with_reducible refine does_by h fun Q hQ => ?_
      clear h
      dsimp only [af174, conSent, go_sem, Nat.reduceAdd, Nat.reduceMul, Nat.reduceSub, Nat.reduceBEq, Nat.reduceLeDiff, Nat.reduceEqDiff, ↓dreduceIte, toG]
      repeat' first
        | with_reducible refine kon_seq ?_
        | with_reducible refine kon_nil ?_
        | with_reducible refine kon_any ?_ ?_
        | with_reducible exact kon_any_nil
        | with_reducible refine kon_skip ?_
        | with_reducible refine kon_block ?_
        | with_reducible refine kon_ret ?_
        | with_reducible refine kon_exit ?_
        | with_reducible refine kon_past_ret ?_
        | with_reducible refine kon_past_exit ?_
        | with_reducible refine kon_blk_ret ?_
        | with_reducible refine kon_blk_end ?_
        | with_reducible refine kon_blk_exit ?_
        | (with_reducible refine kon_blk_past ?_ ?_
           · decide)
        | with_reducible refine loop_exit ?_
        | with_reducible refine loop_ret ?_
        | with_reducible refine mid_exit ?_
        | with_reducible refine mid_ret ?_
        | ((first | with_reducible refine kon_bin fun R hR => ?_ | with_reducible refine kon_conv fun R hR => ?_)
           dsimp only [go_sem, Nat.reduceAdd, Nat.reduceMul, Nat.reduceSub, Nat.reduceBEq, Nat.reduceLeDiff, Nat.reduceEqDiff, ↓dreduceIte, toG]
           try simp (disch := first | omega | (simp only [List.length_set, List.length_append, List.length_cons, List.length_nil, List.length_replicate]; omega)) only [guardP_T, guardP_pos, iteN, rd_set, List.set_set, List.length_set, eta_fact, eta_rumor, eta_doubt, eta_item, eta_rec, eta_due, look, look0, rd_toNat, wrap64, Int.toNat_natCast, Nat.zero_add, List.take_length, List.drop_zero, and_self, setB_len, true_and, and_true]
           with_reducible refine hR _ ?_
           clear hR R)
        | (with_reducible refine kon_ins fun R hR => ?_
           dsimp only [go_sem, Nat.reduceAdd, Nat.reduceMul, Nat.reduceSub, Nat.reduceBEq, Nat.reduceLeDiff, Nat.reduceEqDiff, ↓dreduceIte, toG]
           first
             | with_reducible refine hR _ ?_
             | (simp (disch := first | omega | (simp only [List.length_set, List.length_append, List.length_cons, List.length_nil, List.length_replicate]; omega)) only [guardP_T, guardP_pos, iteN, rd_set, List.set_set, List.length_set, eta_fact, eta_rumor, eta_doubt, eta_item, eta_rec, eta_due, look, look0, rd_toNat, wrap64, Int.toNat_natCast, Nat.zero_add, List.take_length, List.drop_zero, and_self, setB_len, true_and, and_true]
                try dsimp only [go_sem, Nat.reduceAdd, Nat.reduceMul, Nat.reduceSub, Nat.reduceBEq, Nat.reduceLeDiff, Nat.reduceEqDiff, ↓dreduceIte, toG]
                try simp (disch := first | omega | (simp only [List.length_set, List.length_append, List.length_cons, List.length_nil, List.length_replicate]; omega)) only [guardP_T, guardP_pos, iteN, rd_set, List.set_set, List.length_set, eta_fact, eta_rumor, eta_doubt, eta_item, eta_rec, eta_due, look, look0, rd_toNat, wrap64, Int.toNat_natCast, Nat.zero_add, List.take_length, List.drop_zero, and_self, setB_len, true_and, and_true]
                with_reducible refine hR _ ?_)
           clear hR R)
        | (with_reducible refine kon_g_run ?_ ?_
           · dsimp only [nth] <;> with_reducible rfl)
        | (with_reducible refine kon_g_skip ?_ ?_
           · dsimp only [nth, not_t', not_f'] <;> with_reducible rfl
           dsimp only [go_sem])
        | (with_reducible refine kon_g_undef ?_ ?_
           · dsimp only [nth] <;> with_reducible rfl
           dsimp only [go_sem])
        | (with_reducible refine kon_g fun R hR => ?_
           dsimp only [go_sem, Nat.reduceAdd, Nat.reduceMul, Nat.reduceSub, Nat.reduceBEq, Nat.reduceLeDiff, Nat.reduceEqDiff, ↓dreduceIte, toG]
           split <;> (rename_i hb; with_reducible refine hR _ ?_; clear hR R; try simp only [hb]; try simp only [decide_eq_true_eq, decide_eq_false_iff_not, beq_iff_eq, beq_eq_false_iff_ne, bne_iff_ne, bne_eq_false_iff_eq, Bool.not_eq_true, Bool.not_eq_false, Bool.not_eq_eq_eq_not, Bool.not_true, Bool.not_false, ne_eq, Int.not_lt, Int.not_le, eq_self, not_true_eq_false, not_false_eq_true, decide_true, decide_false, Bool.and_eq_true, Bool.or_eq_true, Bool.and_eq_false_iff, Bool.or_eq_false_iff, gt_iff_lt, ge_iff_le, Bool.false_eq_true, Bool.true_eq_false, reduceCtorEq, or_false, false_or, or_true, true_or, false_and, and_false] at hb; try (exfalso; omega)))
        | (with_reducible refine kon_cond fun R1 R2 h1 h2 => ?_
           dsimp only [go_sem]
           first
             | (with_reducible refine h1 ?_; clear h1 h2 R1 R2)
             | (with_reducible refine h2 ?_; clear h1 h2 R1 R2)
             | ((split <;> rename_i hb <;> first
                 | (with_reducible refine h1 ?_; clear h1 h2 R1 R2; try simp only [hb])
                 | (with_reducible refine h2 ?_; clear h1 h2 R1 R2; try simp only [hb])) <;> (try simp only [decide_eq_true_eq, decide_eq_false_iff_not, beq_iff_eq, beq_eq_false_iff_ne, bne_iff_ne, bne_eq_false_iff_eq, Bool.not_eq_true, Bool.not_eq_false, Bool.not_eq_eq_eq_not, Bool.not_true, Bool.not_false, ne_eq, Int.not_lt, Int.not_le, eq_self, not_true_eq_false, not_false_eq_true, decide_true, decide_false, Bool.and_eq_true, Bool.or_eq_true, Bool.and_eq_false_iff, Bool.or_eq_false_iff, gt_iff_lt, ge_iff_le, Bool.false_eq_true, Bool.true_eq_false, reduceCtorEq, or_false, false_or, or_true, true_or, false_and, and_false] at hb; try (exfalso; omega))))
        | (with_reducible refine kon_rounds (a := lp174_0) [0, 1, 5] (fun n9 s9 => ∃ (k : Int), ((0 ≤ k) ∧ (k ≤ i) ∧ (anyI (sentP (rd l i)) l k = false)) ∧ n9 = (i - k).toNat ∧ s9.m = [] ∧ s9.t = [.sl .rcd l, .int .i64 i, nth s9.t 2, nth s9.t 3, nth s9.t 4, .int .i64 k, nth s9.t 6, nth s9.t 7, nth s9.t 8, nth s9.t 9, nth s9.t 10, nth s9.t 11, nth s9.t 12, nth s9.t 13, nth s9.t 14, nth s9.t 15, nth s9.t 16, nth s9.t 17, nth s9.t 18, nth s9.t 19, nth s9.t 20, nth s9.t 21, nth s9.t 22, nth s9.t 23, nth s9.t 24, nth s9.t 25, nth s9.t 26, nth s9.t 27, nth s9.t 28, nth s9.t 29, nth s9.t 30, nth s9.t 31, nth s9.t 32, nth s9.t 33, nth s9.t 34, nth s9.t 35, nth s9.t 36, nth s9.t 37, nth s9.t 38, nth s9.t 39, nth s9.t 40, nth s9.t 41, nth s9.t 42, nth s9.t 43, nth s9.t 44, nth s9.t 45, nth s9.t 46, nth s9.t 47, nth s9.t 48, nth s9.t 49, nth s9.t 50, nth s9.t 51, nth s9.t 52, nth s9.t 53, nth s9.t 54, nth s9.t 55]) ?_ ?_
           all_goals first
             | (rintro n9 ⟨t9, m9⟩ ⟨k, ⟨hI0, hI1, hI2⟩, rfl, hm9, ht9⟩
                dsimp only at hm9 ht9
                subst hm9
                rw [ht9]
                clear ht9
                dsimp only [lp174_0])
             | (dsimp only [go_sem, Nat.reduceAdd, Nat.reduceMul, Nat.reduceSub, Nat.reduceBEq, Nat.reduceLeDiff, Nat.reduceEqDiff, ↓dreduceIte, toG]
                refine ⟨_, _, ⟨?_, ?_, ?_⟩, rfl, rfl, rfl⟩))
        | (with_reducible refine loop_again (keep := [0, 1, 5]) ?_
           dsimp only [go_sem, Nat.reduceAdd, Nat.reduceMul, Nat.reduceSub, Nat.reduceBEq, Nat.reduceLeDiff, Nat.reduceEqDiff, ↓dreduceIte, toG]
           refine ⟨_, ?_, _, ⟨?_, ?_, ?_⟩, rfl, rfl, rfl⟩)
      all_goals first
        | (dsimp only [kon]
           with_reducible refine hQ _ _ _ ?_
           dsimp only [kon, endQ, af174, conSent, go_sem, Nat.reduceAdd, Nat.reduceMul, Nat.reduceSub, Nat.reduceBEq, Nat.reduceLeDiff, Nat.reduceEqDiff, ↓dreduceIte, toG]
           try simp (disch := first | omega | (simp only [List.length_set, List.length_append, List.length_cons, List.length_nil, List.length_replicate]; omega)) only [guardP_T, guardP_pos, iteN, rd_set, List.set_set, List.length_set, eta_fact, eta_rumor, eta_doubt, eta_item, eta_rec, eta_due, look, look0, rd_toNat, wrap64, Int.toNat_natCast, Nat.zero_add, List.take_length, List.drop_zero, and_self, setB_len, true_and, and_true]
           try dsimp only [go_sem, Nat.reduceAdd, Nat.reduceMul, Nat.reduceSub, Nat.reduceBEq, Nat.reduceLeDiff, Nat.reduceEqDiff, ↓dreduceIte, toG])
        | skip
      all_goals try first
        | omega
        | (simp; done)
        | (simp; omega)
      all_goals first
        | omega
        | (refine anyI_go (by omega) (by omega) (by assumption) ?_
           simp_all [sentP]
           done)
        | (simp only [Option.some.injEq, Prod.mk.injEq, AV.bool.injEq, and_true]
           refine Eq.symm (anyI_hit (l := l) (i := i) (k := k) (by omega) (by omega) (by omega) ?_)
           simp_all [sentP]
           done)
        | (have e9 : k = i := by omega
           rw [e9] at hI2
           simp only [Option.some.injEq, Prod.mk.injEq, AV.bool.injEq, and_true]
           exact hI2.symm)
        | (simp [anyI]; done)
    · simp at h'

def tb172 : Tab := fun f => match f with
  | 178 => some conTold
  | _ => none

theorem tb172_178 : tb172 178 = some conTold := rfl

-- loop.example/g00678/spec.l12Born hows [(4, [.any, .any, .any, .any, .any, .any, .any, .any, .any, .pure, .any, .any, .any, .any, .any, .any], [])]
def lp172_0 : AC := .seq (.seq (.reg [⟨some 6, .mv (.t 5), none⟩,
        ⟨some 7, .mv (.t 1), none⟩,
        ⟨some 8, .bin .lss (.t 6) (.t 7), none⟩])
      (.cond (.t 8)
        (.skip)
        (.exit 0)))
      (.seq (.block 1 (.seq (.reg [⟨some 11, .mv (.t 0), none⟩,
          ⟨some 12, .mv (.t 5), none⟩,
          ⟨some 13, .ia .rcd (.t 11) (.t 12), none⟩,
          ⟨some 14, .ld true 6 (.t 13), none⟩,
          ⟨some 15, .mv (.t 0), none⟩,
          ⟨some 16, .mv (.t 1), none⟩,
          ⟨some 17, .ia .rcd (.t 15) (.t 16), none⟩,
          ⟨some 18, .fa 1 (.t 17), none⟩,
          ⟨some 19, .ld false 1 (.t 18), none⟩,
          ⟨some 20, .callp 178 [(.t 14), (.t 19)], none⟩,
          ⟨some 21, .mv (.t 0), none⟩,
          ⟨some 22, .mv (.t 1), none⟩,
          ⟨some 23, .ia .rcd (.t 21) (.t 22), none⟩,
          ⟨some 24, .fa 3 (.t 23), none⟩,
          ⟨some 25, .ld false 1 (.t 24), none⟩,
          ⟨some 26, .bin .geq (.t 20) (.t 25), none⟩])
        (.cond (.t 26)
          (.seq (.reg [⟨some 27, .mv (.t 5), none⟩,
            ⟨some 4, .mv (.t 27), none⟩])
          (.ret))
          (.skip))))
      (.reg [⟨some 9, .mv (.t 5), none⟩,
        ⟨some 10, .bin .add (.t 9) (.i 1), none⟩,
        ⟨some 5, .mv (.t 10), none⟩]))
def af172 : AF := ⟨28, [.t 4],
  .seq (.reg [⟨some 4, .mv (.i 0), none⟩])
  (.seq (.seq (.reg [⟨some 5, .mv (.i 0), none⟩])
  (.block 0 (.loop lp172_0)))
  (.seq (.reg [⟨some 4, .mv (.i (-1)), none⟩])
  (.ret)))⟩

set_option maxHeartbeats 4000000 in
theorem does172 (as : List AV) (hok : ok 64 as) : Does tb172 af172 conBorn as := by
  cases h : (conBorn).run as with
  | none => exact does_none h
  | some out =>
    have h' := h
    simp only [conBorn] at h'
    split at h'
    · rename_i l i
      by_cases hp : 0 ≤ i ∧ i < l.length
      case neg => simp [guardP, hp] at h'
      rw [guardP_pos hp] at h'
      obtain ⟨hp1, hp2⟩ := hp
      simp only [ok] at hok
      obtain ⟨⟨hlen, _⟩, _⟩ := hok
      simp only [Option.some.injEq] at h'
      subst h'
      have hmo : (most : Int) = 1099511627776 := rfl
      have hml : (maxLen : Int) = 9223372036854775807 := rfl
      with_reducible refine does_by h fun Q hQ => ?_
      clear h
      dsimp only [af172, conBorn, go_sem, Nat.reduceAdd, Nat.reduceMul, Nat.reduceSub, Nat.reduceBEq, Nat.reduceLeDiff, Nat.reduceEqDiff, ↓dreduceIte, toG, tb172_178, conTold]
      repeat' first
        | with_reducible refine kon_seq ?_
        | with_reducible refine kon_nil ?_
        | with_reducible refine kon_any ?_ ?_
        | with_reducible exact kon_any_nil
        | with_reducible refine kon_skip ?_
        | with_reducible refine kon_block ?_
        | with_reducible refine kon_ret ?_
        | with_reducible refine kon_exit ?_
        | with_reducible refine kon_past_ret ?_
        | with_reducible refine kon_past_exit ?_
        | with_reducible refine kon_blk_ret ?_
        | with_reducible refine kon_blk_end ?_
        | with_reducible refine kon_blk_exit ?_
        | (with_reducible refine kon_blk_past ?_ ?_
           · decide)
        | with_reducible refine loop_exit ?_
        | with_reducible refine loop_ret ?_
        | with_reducible refine mid_exit ?_
        | with_reducible refine mid_ret ?_
        | ((first | with_reducible refine kon_bin fun R hR => ?_ | with_reducible refine kon_conv fun R hR => ?_)
           dsimp only [go_sem, Nat.reduceAdd, Nat.reduceMul, Nat.reduceSub, Nat.reduceBEq, Nat.reduceLeDiff, Nat.reduceEqDiff, ↓dreduceIte, toG, tb172_178, conTold]
           try simp (disch := first | omega | (simp only [List.length_set, List.length_append, List.length_cons, List.length_nil, List.length_replicate]; omega)) only [guardP_T, guardP_pos, iteN, rd_set, List.set_set, List.length_set, eta_fact, eta_rumor, eta_doubt, eta_item, eta_rec, eta_due, look, look0, rd_toNat, wrap64, Int.toNat_natCast, Nat.zero_add, List.take_length, List.drop_zero, and_self, setB_len, true_and, and_true]
           with_reducible refine hR _ ?_
           clear hR R)
        | (with_reducible refine kon_ins fun R hR => ?_
           dsimp only [go_sem, Nat.reduceAdd, Nat.reduceMul, Nat.reduceSub, Nat.reduceBEq, Nat.reduceLeDiff, Nat.reduceEqDiff, ↓dreduceIte, toG, tb172_178, conTold]
           first
             | with_reducible refine hR _ ?_
             | (simp (disch := first | omega | (simp only [List.length_set, List.length_append, List.length_cons, List.length_nil, List.length_replicate]; omega)) only [guardP_T, guardP_pos, iteN, rd_set, List.set_set, List.length_set, eta_fact, eta_rumor, eta_doubt, eta_item, eta_rec, eta_due, look, look0, rd_toNat, wrap64, Int.toNat_natCast, Nat.zero_add, List.take_length, List.drop_zero, and_self, setB_len, true_and, and_true]
                try dsimp only [go_sem, Nat.reduceAdd, Nat.reduceMul, Nat.reduceSub, Nat.reduceBEq, Nat.reduceLeDiff, Nat.reduceEqDiff, ↓dreduceIte, toG, tb172_178, conTold]
                try simp (disch := first | omega | (simp only [List.length_set, List.length_append, List.length_cons, List.length_nil, List.length_replicate]; omega)) only [guardP_T, guardP_pos, iteN, rd_set, List.set_set, List.length_set, eta_fact, eta_rumor, eta_doubt, eta_item, eta_rec, eta_due, look, look0, rd_toNat, wrap64, Int.toNat_natCast, Nat.zero_add, List.take_length, List.drop_zero, and_self, setB_len, true_and, and_true]
                with_reducible refine hR _ ?_)
           clear hR R)
        | (with_reducible refine kon_g_run ?_ ?_
           · dsimp only [nth] <;> with_reducible rfl)
        | (with_reducible refine kon_g_skip ?_ ?_
           · dsimp only [nth, not_t', not_f'] <;> with_reducible rfl
           dsimp only [go_sem])
        | (with_reducible refine kon_g_undef ?_ ?_
           · dsimp only [nth] <;> with_reducible rfl
           dsimp only [go_sem])
        | (with_reducible refine kon_g fun R hR => ?_
           dsimp only [go_sem, Nat.reduceAdd, Nat.reduceMul, Nat.reduceSub, Nat.reduceBEq, Nat.reduceLeDiff, Nat.reduceEqDiff, ↓dreduceIte, toG, tb172_178, conTold]
           split <;> (rename_i hb; with_reducible refine hR _ ?_; clear hR R; try simp only [hb]; try simp only [decide_eq_true_eq, decide_eq_false_iff_not, beq_iff_eq, beq_eq_false_iff_ne, bne_iff_ne, bne_eq_false_iff_eq, Bool.not_eq_true, Bool.not_eq_false, Bool.not_eq_eq_eq_not, Bool.not_true, Bool.not_false, ne_eq, Int.not_lt, Int.not_le, eq_self, not_true_eq_false, not_false_eq_true, decide_true, decide_false, Bool.and_eq_true, Bool.or_eq_true, Bool.and_eq_false_iff, Bool.or_eq_false_iff, gt_iff_lt, ge_iff_le, Bool.false_eq_true, Bool.true_eq_false, reduceCtorEq, or_false, false_or, or_true, true_or, false_and, and_false] at hb; try (exfalso; omega)))
        | (with_reducible refine kon_cond fun R1 R2 h1 h2 => ?_
           dsimp only [go_sem]
           first
             | (with_reducible refine h1 ?_; clear h1 h2 R1 R2)
             | (with_reducible refine h2 ?_; clear h1 h2 R1 R2)
             | ((split <;> rename_i hb <;> first
                 | (with_reducible refine h1 ?_; clear h1 h2 R1 R2; try simp only [hb])
                 | (with_reducible refine h2 ?_; clear h1 h2 R1 R2; try simp only [hb])) <;> (try simp only [decide_eq_true_eq, decide_eq_false_iff_not, beq_iff_eq, beq_eq_false_iff_ne, bne_iff_ne, bne_eq_false_iff_eq, Bool.not_eq_true, Bool.not_eq_false, Bool.not_eq_eq_eq_not, Bool.not_true, Bool.not_false, ne_eq, Int.not_lt, Int.not_le, eq_self, not_true_eq_false, not_false_eq_true, decide_true, decide_false, Bool.and_eq_true, Bool.or_eq_true, Bool.and_eq_false_iff, Bool.or_eq_false_iff, gt_iff_lt, ge_iff_le, Bool.false_eq_true, Bool.true_eq_false, reduceCtorEq, or_false, false_or, or_true, true_or, false_and, and_false] at hb; try (exfalso; omega))))
        | (with_reducible refine kon_rounds (a := lp172_0) [0, 1, 5] (fun n9 s9 => ∃ (k : Int), ((0 ≤ k) ∧ (k ≤ i) ∧ (anyI (bornP (rd l i).node (rd l i).a) l k = false)) ∧ n9 = (i - k).toNat ∧ s9.m = [] ∧ s9.t = [.sl .rcd l, .int .i64 i, nth s9.t 2, nth s9.t 3, nth s9.t 4, .int .i64 k, nth s9.t 6, nth s9.t 7, nth s9.t 8, nth s9.t 9, nth s9.t 10, nth s9.t 11, nth s9.t 12, nth s9.t 13, nth s9.t 14, nth s9.t 15, nth s9.t 16, nth s9.t 17, nth s9.t 18, nth s9.t 19, nth s9.t 20, nth s9.t 21, nth s9.t 22, nth s9.t 23, nth s9.t 24, nth s9.t 25, nth s9.t 26, nth s9.t 27]) ?_ ?_
           all_goals first
             | (rintro n9 ⟨t9, m9⟩ ⟨k, ⟨hI0, hI1, hI2⟩, rfl, hm9, ht9⟩
                dsimp only at hm9 ht9
                subst hm9
                rw [ht9]
                clear ht9
                dsimp only [lp172_0])
             | (dsimp only [go_sem, Nat.reduceAdd, Nat.reduceMul, Nat.reduceSub, Nat.reduceBEq, Nat.reduceLeDiff, Nat.reduceEqDiff, ↓dreduceIte, toG, tb172_178, conTold]
                refine ⟨_, _, ⟨?_, ?_, ?_⟩, rfl, rfl, rfl⟩))
        | (with_reducible refine loop_again (keep := [0, 1, 5]) ?_
           dsimp only [go_sem, Nat.reduceAdd, Nat.reduceMul, Nat.reduceSub, Nat.reduceBEq, Nat.reduceLeDiff, Nat.reduceEqDiff, ↓dreduceIte, toG, tb172_178, conTold]
           refine ⟨_, ?_, _, ⟨?_, ?_, ?_⟩, rfl, rfl, rfl⟩)
      all_goals first
        | (dsimp only [kon]
           with_reducible refine hQ _ _ _ ?_
           dsimp only [kon, endQ, af172, conBorn, go_sem, Nat.reduceAdd, Nat.reduceMul, Nat.reduceSub, Nat.reduceBEq, Nat.reduceLeDiff, Nat.reduceEqDiff, ↓dreduceIte, toG, tb172_178, conTold]
           try simp (disch := first | omega | (simp only [List.length_set, List.length_append, List.length_cons, List.length_nil, List.length_replicate]; omega)) only [guardP_T, guardP_pos, iteN, rd_set, List.set_set, List.length_set, eta_fact, eta_rumor, eta_doubt, eta_item, eta_rec, eta_due, look, look0, rd_toNat, wrap64, Int.toNat_natCast, Nat.zero_add, List.take_length, List.drop_zero, and_self, setB_len, true_and, and_true]
           try dsimp only [go_sem, Nat.reduceAdd, Nat.reduceMul, Nat.reduceSub, Nat.reduceBEq, Nat.reduceLeDiff, Nat.reduceEqDiff, ↓dreduceIte, toG, tb172_178, conTold])
        | skip
      all_goals try first
        | omega
        | (simp; done)
        | (simp; omega)
      all_goals first
        | omega
        | (refine anyI_go (by omega) (by omega) (by assumption) ?_
           simp_all [bornP]
           done)
        | (rw [born_hit (l := l) (i := i) (k := k) (by omega) (by omega) (by omega) (by assumption) (by simp_all [bornP])]
           done)
        | (have e9 : k = i := by omega
           rw [e9] at hI2
           rw [firstI_none _ _ hI2]
           done)
        | (simp [anyI]; done)
    · simp at h'

-- loop.example/g00678/spec.l12Known hows [(9, [.boxed, .any, .boxed, .pure, .any, .boxed, .any], [])]
def lp176_0 : AC := .seq (.seq (.reg [⟨some 15, .mv (.t 8), none⟩,
        ⟨some 16, .mv (.t 1), none⟩,
        ⟨some 17, .bin .lss (.t 15) (.t 16), none⟩])
      (.cond (.t 17)
        (.skip)
        (.exit 0)))
      (.seq (.block 1 (.seq (.reg [⟨some 20, .mv (.t 0), none⟩,
          ⟨some 21, .mv (.t 8), none⟩,
          ⟨some 22, .ia .rcd (.t 20) (.t 21), none⟩,
          ⟨some 23, .ld true 6 (.t 22), none⟩,
          ⟨some 9, .box (.c (.agg [.int .i64 0, .int .i64 0, .int .i64 0, .int .i64 0, .int .i64 0, .int .i64 0])), none⟩,
          ⟨none, .st 6 (.t 9) (.t 23), none⟩])
        (.seq (.reg [⟨some 24, .fa 2 (.t 9), none⟩,
          ⟨some 25, .ld false 1 (.t 24), none⟩,
          ⟨some 26, .bin .eql (.t 25) (.i 5), none⟩,
          ⟨some 27, .mv (.t 26), none⟩,
          ⟨some 28, .fa 1 (.t 9), some (27, true)⟩,
          ⟨some 29, .ld false 1 (.t 28), some (27, true)⟩,
          ⟨some 30, .fa 3 (.t 7), some (27, true)⟩,
          ⟨some 31, .ld false 1 (.t 30), some (27, true)⟩,
          ⟨some 32, .bin .eql (.t 29) (.t 31), some (27, true)⟩,
          ⟨some 33, .pick (.t 27) (.t 32) (.b false), none⟩,
          ⟨some 34, .mv (.t 33), none⟩,
          ⟨some 35, .fa 3 (.t 9), some (34, true)⟩,
          ⟨some 36, .ld false 1 (.t 35), some (34, true)⟩,
          ⟨some 37, .fa 3 (.t 7), some (34, true)⟩,
          ⟨some 38, .ld false 1 (.t 37), some (34, true)⟩,
          ⟨some 39, .bin .eql (.t 36) (.t 38), some (34, true)⟩,
          ⟨some 40, .pick (.t 34) (.t 39) (.b false), none⟩,
          ⟨some 41, .mv (.t 40), none⟩,
          ⟨some 42, .fa 4 (.t 9), some (41, true)⟩,
          ⟨some 43, .ld false 1 (.t 42), some (41, true)⟩,
          ⟨some 44, .fa 4 (.t 7), some (41, true)⟩,
          ⟨some 45, .ld false 1 (.t 44), some (41, true)⟩,
          ⟨some 46, .bin .eql (.t 43) (.t 45), some (41, true)⟩,
          ⟨some 47, .pick (.t 41) (.t 46) (.b false), none⟩,
          ⟨some 10, .mv (.t 47), none⟩])
        (.seq (.reg [⟨some 48, .mv (.t 2), none⟩])
        (.block 2 (.seq (.reg [⟨some 50, .bin .eql (.t 48) (.i 7), none⟩,
            ⟨some 49, .mv (.t 50), none⟩])
          (.cond (.t 49)
            (.seq (.reg [⟨some 51, .ldb true 6 (.t 9), none⟩,
              ⟨some 52, .fa 3 (.t 7), none⟩,
              ⟨some 53, .ldb false 1 (.t 52), none⟩,
              ⟨some 54, .callp 178 [(.t 51), (.t 53)], none⟩,
              ⟨some 55, .fa 4 (.t 7), none⟩,
              ⟨some 56, .ldb false 1 (.t 55), none⟩,
              ⟨some 57, .bin .eql (.t 54) (.t 56), none⟩])
            (.cond (.t 57)
              (.seq (.reg [⟨some 6, .mv (.b true), none⟩])
              (.ret))
              (.skip)))
            (.seq (.reg [⟨some 59, .bin .eql (.t 48) (.i 8), none⟩,
              ⟨some 58, .mv (.t 59), none⟩])
            (.cond (.t 58)
              (.seq (.reg [⟨some 60, .fa 2 (.t 9), none⟩,
                ⟨some 61, .ld false 1 (.t 60), none⟩,
                ⟨some 62, .bin .eql (.t 61) (.i 6), none⟩,
                ⟨some 63, .mv (.t 62), none⟩,
                ⟨some 64, .fa 3 (.t 9), some (63, true)⟩,
                ⟨some 65, .ld false 1 (.t 64), some (63, true)⟩,
                ⟨some 66, .fa 3 (.t 7), some (63, true)⟩,
                ⟨some 67, .ld false 1 (.t 66), some (63, true)⟩,
                ⟨some 68, .bin .eql (.t 65) (.t 67), some (63, true)⟩,
                ⟨some 69, .pick (.t 63) (.t 68) (.b false), none⟩])
              (.cond (.t 69)
                (.seq (.reg [⟨some 6, .mv (.b true), none⟩])
                (.ret))
                (.skip)))
              (.seq (.reg [⟨some 71, .bin .eql (.t 48) (.i 9), none⟩,
                ⟨some 70, .mv (.t 71), none⟩])
              (.cond (.t 70)
                (.seq (.reg [⟨some 72, .mv (.t 10), none⟩,
                  ⟨some 73, .mv (.t 72), none⟩,
                  ⟨some 74, .fa 5 (.t 9), some (73, true)⟩,
                  ⟨some 75, .ld false 1 (.t 74), some (73, true)⟩,
                  ⟨some 76, .bin .eql (.t 75) (.i 3), some (73, true)⟩,
                  ⟨some 77, .pick (.t 73) (.t 76) (.b false), none⟩,
                  ⟨some 78, .mv (.t 77), none⟩,
                  ⟨some 79, .fa 2 (.t 9), some (78, false)⟩,
                  ⟨some 80, .ld false 1 (.t 79), some (78, false)⟩,
                  ⟨some 81, .bin .eql (.t 80) (.i 5), some (78, false)⟩,
                  ⟨some 82, .mv (.t 81), some (78, false)⟩,
                  ⟨some 83, .fa 3 (.t 9), some (82, true)⟩,
                  ⟨some 84, .ld false 1 (.t 83), some (82, true)⟩,
                  ⟨some 85, .fa 3 (.t 7), some (82, true)⟩,
                  ⟨some 86, .ld false 1 (.t 85), some (82, true)⟩,
                  ⟨some 87, .bin .eql (.t 84) (.t 86), some (82, true)⟩,
                  ⟨some 88, .pick (.t 82) (.t 87) (.b false), some (78, false)⟩,
                  ⟨some 89, .mv (.t 88), some (78, false)⟩,
                  ⟨some 90, .fa 4 (.t 9), some (89, true)⟩,
                  ⟨some 91, .ld false 1 (.t 90), some (89, true)⟩,
                  ⟨some 92, .fa 4 (.t 7), some (89, true)⟩,
                  ⟨some 93, .ld false 1 (.t 92), some (89, true)⟩,
                  ⟨some 94, .bin .eql (.t 91) (.t 93), some (89, true)⟩,
                  ⟨some 95, .pick (.t 89) (.t 94) (.b false), some (78, false)⟩,
                  ⟨some 96, .mv (.t 95), some (78, false)⟩,
                  ⟨some 97, .fa 5 (.t 9), some (96, true)⟩,
                  ⟨some 98, .ld false 1 (.t 97), some (96, true)⟩,
                  ⟨some 99, .bin .eql (.t 98) (.i 2), some (96, true)⟩,
                  ⟨some 100, .pick (.t 96) (.t 99) (.b false), some (78, false)⟩,
                  ⟨some 101, .mv (.t 100), some (78, false)⟩,
                  ⟨some 102, .fa 0 (.t 9), some (101, true)⟩,
                  ⟨some 103, .ld false 1 (.t 102), some (101, true)⟩,
                  ⟨some 104, .bin .add (.t 103) (.i 12), some (101, true)⟩,
                  ⟨some 105, .fa 0 (.t 7), some (101, true)⟩,
                  ⟨some 106, .ld false 1 (.t 105), some (101, true)⟩,
                  ⟨some 107, .bin .leq (.t 104) (.t 106), some (101, true)⟩,
                  ⟨some 108, .pick (.t 101) (.t 107) (.b false), some (78, false)⟩,
                  ⟨some 109, .pick (.t 78) (.b true) (.t 108), none⟩])
                (.cond (.t 109)
                  (.seq (.reg [⟨some 6, .mv (.b true), none⟩])
                  (.ret))
                  (.skip)))
                (.skip))))))))))))
      (.reg [⟨some 18, .mv (.t 8), none⟩,
        ⟨some 19, .bin .add (.t 18) (.i 1), none⟩,
        ⟨some 8, .mv (.t 19), none⟩]))
def af176 : AF := ⟨110, [.t 6],
  .seq (.reg [⟨some 6, .mv (.b false), none⟩])
  (.seq (.reg [⟨some 11, .mv (.t 0), none⟩,
    ⟨some 12, .mv (.t 1), none⟩,
    ⟨some 13, .ia .rcd (.t 11) (.t 12), none⟩,
    ⟨some 14, .ld true 6 (.t 13), none⟩,
    ⟨some 7, .box (.c (.agg [.int .i64 0, .int .i64 0, .int .i64 0, .int .i64 0, .int .i64 0, .int .i64 0])), none⟩,
    ⟨none, .st 6 (.t 7) (.t 14), none⟩])
  (.seq (.seq (.reg [⟨some 8, .mv (.i 0), none⟩])
  (.block 0 (.loop lp176_0)))
  (.seq (.reg [⟨some 6, .mv (.b false), none⟩])
  (.ret))))⟩

set_option maxHeartbeats 4000000 in
theorem does176 (as : List AV) (hok : ok 64 as) : Does tb172 af176 conKnown as := by
  cases h : (conKnown).run as with
  | none => exact does_none h
  | some out =>
    have h' := h
    simp only [conKnown] at h'
    split at h'
    · rename_i l i c
      by_cases hp : 0 ≤ i ∧ i < l.length
      case neg => simp [guardP, hp] at h'
      rw [guardP_pos hp] at h'
      obtain ⟨hp1, hp2⟩ := hp
      simp only [ok] at hok
      obtain ⟨⟨hlen, _⟩, _⟩ := hok
      simp only [Option.some.injEq] at h'
      subst h'
      have hmo : (most : Int) = 1099511627776 := rfl
      have hml : (maxLen : Int) = 9223372036854775807 := rfl
      with_reducible refine does_by h fun Q hQ => ?_
      clear h
      dsimp only [af176, conKnown, go_sem, Nat.reduceAdd, Nat.reduceMul, Nat.reduceSub, Nat.reduceBEq, Nat.reduceLeDiff, Nat.reduceEqDiff, ↓dreduceIte, toG, tb172_178, conTold]
      repeat' first
        | with_reducible refine kon_seq ?_
        | with_reducible refine kon_nil ?_
        | with_reducible refine kon_any ?_ ?_
        | with_reducible exact kon_any_nil
        | with_reducible refine kon_skip ?_
        | with_reducible refine kon_block ?_
        | with_reducible refine kon_ret ?_
        | with_reducible refine kon_exit ?_
        | with_reducible refine kon_past_ret ?_
        | with_reducible refine kon_past_exit ?_
        | with_reducible refine kon_blk_ret ?_
        | with_reducible refine kon_blk_end ?_
        | with_reducible refine kon_blk_exit ?_
        | (with_reducible refine kon_blk_past ?_ ?_
           · decide)
        | with_reducible refine loop_exit ?_
        | with_reducible refine loop_ret ?_
        | with_reducible refine mid_exit ?_
        | with_reducible refine mid_ret ?_
        | ((first | with_reducible refine kon_bin fun R hR => ?_ | with_reducible refine kon_conv fun R hR => ?_)
           dsimp only [go_sem, Nat.reduceAdd, Nat.reduceMul, Nat.reduceSub, Nat.reduceBEq, Nat.reduceLeDiff, Nat.reduceEqDiff, ↓dreduceIte, toG, tb172_178, conTold]
           try simp (disch := first | omega | (simp only [List.length_set, List.length_append, List.length_cons, List.length_nil, List.length_replicate]; omega)) only [guardP_T, guardP_pos, iteN, rd_set, List.set_set, List.length_set, eta_fact, eta_rumor, eta_doubt, eta_item, eta_rec, eta_due, look, look0, rd_toNat, wrap64, Int.toNat_natCast, Nat.zero_add, List.take_length, List.drop_zero, and_self, setB_len, true_and, and_true]
           with_reducible refine hR _ ?_
           clear hR R)
        | (with_reducible refine kon_ins fun R hR => ?_
           dsimp only [go_sem, Nat.reduceAdd, Nat.reduceMul, Nat.reduceSub, Nat.reduceBEq, Nat.reduceLeDiff, Nat.reduceEqDiff, ↓dreduceIte, toG, tb172_178, conTold]
           first
             | with_reducible refine hR _ ?_
             | (simp (disch := first | omega | (simp only [List.length_set, List.length_append, List.length_cons, List.length_nil, List.length_replicate]; omega)) only [guardP_T, guardP_pos, iteN, rd_set, List.set_set, List.length_set, eta_fact, eta_rumor, eta_doubt, eta_item, eta_rec, eta_due, look, look0, rd_toNat, wrap64, Int.toNat_natCast, Nat.zero_add, List.take_length, List.drop_zero, and_self, setB_len, true_and, and_true]
                try dsimp only [go_sem, Nat.reduceAdd, Nat.reduceMul, Nat.reduceSub, Nat.reduceBEq, Nat.reduceLeDiff, Nat.reduceEqDiff, ↓dreduceIte, toG, tb172_178, conTold]
                try simp (disch := first | omega | (simp only [List.length_set, List.length_append, List.length_cons, List.length_nil, List.length_replicate]; omega)) only [guardP_T, guardP_pos, iteN, rd_set, List.set_set, List.length_set, eta_fact, eta_rumor, eta_doubt, eta_item, eta_rec, eta_due, look, look0, rd_toNat, wrap64, Int.toNat_natCast, Nat.zero_add, List.take_length, List.drop_zero, and_self, setB_len, true_and, and_true]
                with_reducible refine hR _ ?_)
           clear hR R)
        | (with_reducible refine kon_g_run ?_ ?_
           · dsimp only [nth] <;> with_reducible rfl)
        | (with_reducible refine kon_g_skip ?_ ?_
           · dsimp only [nth, not_t', not_f'] <;> with_reducible rfl
           dsimp only [go_sem])
        | (with_reducible refine kon_g_undef ?_ ?_
           · dsimp only [nth] <;> with_reducible rfl
           dsimp only [go_sem])
        | (with_reducible refine kon_g fun R hR => ?_
           dsimp only [go_sem, Nat.reduceAdd, Nat.reduceMul, Nat.reduceSub, Nat.reduceBEq, Nat.reduceLeDiff, Nat.reduceEqDiff, ↓dreduceIte, toG, tb172_178, conTold]
           split <;> (rename_i hb; with_reducible refine hR _ ?_; clear hR R; try simp only [hb]; try simp only [decide_eq_true_eq, decide_eq_false_iff_not, beq_iff_eq, beq_eq_false_iff_ne, bne_iff_ne, bne_eq_false_iff_eq, Bool.not_eq_true, Bool.not_eq_false, Bool.not_eq_eq_eq_not, Bool.not_true, Bool.not_false, ne_eq, Int.not_lt, Int.not_le, eq_self, not_true_eq_false, not_false_eq_true, decide_true, decide_false, Bool.and_eq_true, Bool.or_eq_true, Bool.and_eq_false_iff, Bool.or_eq_false_iff, gt_iff_lt, ge_iff_le, Bool.false_eq_true, Bool.true_eq_false, reduceCtorEq, or_false, false_or, or_true, true_or, false_and, and_false] at hb; try (exfalso; omega)))
        | (with_reducible refine kon_cond fun R1 R2 h1 h2 => ?_
           dsimp only [go_sem]
           first
             | (with_reducible refine h1 ?_; clear h1 h2 R1 R2)
             | (with_reducible refine h2 ?_; clear h1 h2 R1 R2)
             | ((split <;> rename_i hb <;> first
                 | (with_reducible refine h1 ?_; clear h1 h2 R1 R2; try simp only [hb])
                 | (with_reducible refine h2 ?_; clear h1 h2 R1 R2; try simp only [hb])) <;> (try simp only [decide_eq_true_eq, decide_eq_false_iff_not, beq_iff_eq, beq_eq_false_iff_ne, bne_iff_ne, bne_eq_false_iff_eq, Bool.not_eq_true, Bool.not_eq_false, Bool.not_eq_eq_eq_not, Bool.not_true, Bool.not_false, ne_eq, Int.not_lt, Int.not_le, eq_self, not_true_eq_false, not_false_eq_true, decide_true, decide_false, Bool.and_eq_true, Bool.or_eq_true, Bool.and_eq_false_iff, Bool.or_eq_false_iff, gt_iff_lt, ge_iff_le, Bool.false_eq_true, Bool.true_eq_false, reduceCtorEq, or_false, false_or, or_true, true_or, false_and, and_false] at hb; try (exfalso; omega))))
        | (with_reducible refine kon_rounds (a := lp176_0) [0, 1, 2, 7, 8] (fun n9 s9 => ∃ (k : Int), ((0 ≤ k) ∧ (k ≤ i) ∧ (anyI (knownP c (rd l i)) l k = false)) ∧ n9 = (i - k).toNat ∧ s9.m = [.cells [.int .i64 (rd l i).at_, .int .i64 (rd l i).node, .int .i64 (rd l i).kind, .int .i64 (rd l i).a, .int .i64 (rd l i).b, .int .i64 (rd l i).c]] ∧ s9.t = [.sl .rcd l, .int .i64 i, .int .i64 c, nth s9.t 3, nth s9.t 4, nth s9.t 5, nth s9.t 6, .ptr 0 0, .int .i64 k, nth s9.t 9, nth s9.t 10, nth s9.t 11, nth s9.t 12, nth s9.t 13, nth s9.t 14, nth s9.t 15, nth s9.t 16, nth s9.t 17, nth s9.t 18, nth s9.t 19, nth s9.t 20, nth s9.t 21, nth s9.t 22, nth s9.t 23, nth s9.t 24, nth s9.t 25, nth s9.t 26, nth s9.t 27, nth s9.t 28, nth s9.t 29, nth s9.t 30, nth s9.t 31, nth s9.t 32, nth s9.t 33, nth s9.t 34, nth s9.t 35, nth s9.t 36, nth s9.t 37, nth s9.t 38, nth s9.t 39, nth s9.t 40, nth s9.t 41, nth s9.t 42, nth s9.t 43, nth s9.t 44, nth s9.t 45, nth s9.t 46, nth s9.t 47, nth s9.t 48, nth s9.t 49, nth s9.t 50, nth s9.t 51, nth s9.t 52, nth s9.t 53, nth s9.t 54, nth s9.t 55, nth s9.t 56, nth s9.t 57, nth s9.t 58, nth s9.t 59, nth s9.t 60, nth s9.t 61, nth s9.t 62, nth s9.t 63, nth s9.t 64, nth s9.t 65, nth s9.t 66, nth s9.t 67, nth s9.t 68, nth s9.t 69, nth s9.t 70, nth s9.t 71, nth s9.t 72, nth s9.t 73, nth s9.t 74, nth s9.t 75, nth s9.t 76, nth s9.t 77, nth s9.t 78, nth s9.t 79, nth s9.t 80, nth s9.t 81, nth s9.t 82, nth s9.t 83, nth s9.t 84, nth s9.t 85, nth s9.t 86, nth s9.t 87, nth s9.t 88, nth s9.t 89, nth s9.t 90, nth s9.t 91, nth s9.t 92, nth s9.t 93, nth s9.t 94, nth s9.t 95, nth s9.t 96, nth s9.t 97, nth s9.t 98, nth s9.t 99, nth s9.t 100, nth s9.t 101, nth s9.t 102, nth s9.t 103, nth s9.t 104, nth s9.t 105, nth s9.t 106, nth s9.t 107, nth s9.t 108, nth s9.t 109]) ?_ ?_
           all_goals first
             | (rintro n9 ⟨t9, m9⟩ ⟨k, ⟨hI0, hI1, hI2⟩, rfl, hm9, ht9⟩
                dsimp only at hm9 ht9
                subst hm9
                rw [ht9]
                clear ht9
                dsimp only [lp176_0])
             | (dsimp only [go_sem, Nat.reduceAdd, Nat.reduceMul, Nat.reduceSub, Nat.reduceBEq, Nat.reduceLeDiff, Nat.reduceEqDiff, ↓dreduceIte, toG, tb172_178, conTold]
                refine ⟨_, _, ⟨?_, ?_, ?_⟩, rfl, rfl, rfl⟩))
        | (with_reducible refine loop_again (keep := [0, 1, 2, 7, 8]) ?_
           dsimp only [go_sem, Nat.reduceAdd, Nat.reduceMul, Nat.reduceSub, Nat.reduceBEq, Nat.reduceLeDiff, Nat.reduceEqDiff, ↓dreduceIte, toG, tb172_178, conTold]
           refine ⟨_, ?_, _, ⟨?_, ?_, ?_⟩, rfl, rfl, rfl⟩)
      all_goals first
        | (dsimp only [kon]
           with_reducible refine hQ _ _ _ ?_
           dsimp only [kon, endQ, af176, conKnown, go_sem, Nat.reduceAdd, Nat.reduceMul, Nat.reduceSub, Nat.reduceBEq, Nat.reduceLeDiff, Nat.reduceEqDiff, ↓dreduceIte, toG, tb172_178, conTold]
           try simp (disch := first | omega | (simp only [List.length_set, List.length_append, List.length_cons, List.length_nil, List.length_replicate]; omega)) only [guardP_T, guardP_pos, iteN, rd_set, List.set_set, List.length_set, eta_fact, eta_rumor, eta_doubt, eta_item, eta_rec, eta_due, look, look0, rd_toNat, wrap64, Int.toNat_natCast, Nat.zero_add, List.take_length, List.drop_zero, and_self, setB_len, true_and, and_true]
           try dsimp only [go_sem, Nat.reduceAdd, Nat.reduceMul, Nat.reduceSub, Nat.reduceBEq, Nat.reduceLeDiff, Nat.reduceEqDiff, ↓dreduceIte, toG, tb172_178, conTold])
        | skip
      all_goals try first
        | omega
        | (simp; done)
        | (simp; omega)
      all_goals first
        | omega
        | (refine anyI_go (by omega) (by omega) (by assumption) ?_
           simp_all [knownP, missP]
           done)
        | (simp only [Option.some.injEq, Prod.mk.injEq, AV.bool.injEq, and_true]
           refine Eq.symm (anyI_hit (l := l) (i := i) (k := k) (by omega) (by omega) (by omega) ?_)
           simp_all [knownP, missP]
           done)
        | (have e9 : k = i := by omega
           rw [e9] at hI2
           simp only [Option.some.injEq, Prod.mk.injEq, AV.bool.injEq, and_true]
           exact hI2.symm)
        | (simp [anyI]; done)
    · simp at h'

def tb126 : Tab := fun f => match f with
  | 171 => some conLives
  | 172 => some conBorn
  | 173 => some conTwin
  | 174 => some conSent
  | 175 => some conRise
  | 176 => some conKnown
  | _ => none

theorem tb126_171 : tb126 171 = some conLives := rfl
theorem tb126_172 : tb126 172 = some conBorn := rfl
theorem tb126_173 : tb126 173 = some conTwin := rfl
theorem tb126_174 : tb126 174 = some conSent := rfl
theorem tb126_175 : tb126 175 = some conRise := rfl
theorem tb126_176 : tb126 176 = some conKnown := rfl

-- loop.example/g00678/spec.l12Breaks hows [(6, [.any, .any, .any, .any, .any, .any, .any, .any, .any, .any, .boxed, .any, .any, .any], [])]
def af126 : AF := ⟨148, [.t 6],
  .seq (.reg [⟨some 6, .mv (.b false), none⟩])
  (.seq (.reg [⟨some 10, .mv (.t 0), none⟩,
    ⟨some 11, .mv (.t 1), none⟩,
    ⟨some 12, .ia .rcd (.t 10) (.t 11), none⟩,
    ⟨some 13, .ld true 6 (.t 12), none⟩,
    ⟨some 7, .box (.c (.agg [.int .i64 0, .int .i64 0, .int .i64 0, .int .i64 0, .int .i64 0, .int .i64 0])), none⟩,
    ⟨none, .st 6 (.t 7) (.t 13), none⟩])
  (.seq (.reg [⟨some 14, .fa 2 (.t 7), none⟩,
    ⟨some 15, .ld false 1 (.t 14), none⟩,
    ⟨some 16, .bin .eql (.t 15) (.i 5), none⟩,
    ⟨some 8, .mv (.t 16), none⟩])
  (.seq (.reg [⟨some 17, .mv (.t 8), none⟩,
    ⟨some 18, .mv (.t 17), none⟩,
    ⟨some 19, .fa 3 (.t 7), some (18, true)⟩,
    ⟨some 20, .ld false 1 (.t 19), some (18, true)⟩,
    ⟨some 21, .fa 1 (.t 7), some (18, true)⟩,
    ⟨some 22, .ld false 1 (.t 21), some (18, true)⟩,
    ⟨some 23, .bin .neq (.t 20) (.t 22), some (18, true)⟩,
    ⟨some 24, .pick (.t 18) (.t 23) (.b false), none⟩,
    ⟨some 9, .mv (.t 24), none⟩])
  (.seq (.seq (.reg [⟨some 25, .mv (.t 2), none⟩])
  (.block 0 (.seq (.reg [⟨some 27, .bin .eql (.t 25) (.i 1), none⟩,
      ⟨some 26, .mv (.t 27), none⟩])
    (.cond (.t 26)
      (.seq (.reg [⟨some 28, .mv (.t 1), none⟩,
        ⟨some 29, .bin .gtr (.t 28) (.i 0), none⟩,
        ⟨some 30, .mv (.t 29), none⟩,
        ⟨some 31, .mv (.t 0), some (30, true)⟩,
        ⟨some 32, .mv (.t 1), some (30, true)⟩,
        ⟨some 33, .bin .sub (.t 32) (.i 1), some (30, true)⟩,
        ⟨some 34, .ia .rcd (.t 31) (.t 33), some (30, true)⟩,
        ⟨some 35, .fa 0 (.t 34), some (30, true)⟩,
        ⟨some 36, .ld false 1 (.t 35), some (30, true)⟩,
        ⟨some 37, .fa 0 (.t 7), some (30, true)⟩,
        ⟨some 38, .ldb false 1 (.t 37), some (30, true)⟩,
        ⟨some 39, .bin .gtr (.t 36) (.t 38), some (30, true)⟩,
        ⟨some 40, .pick (.t 30) (.t 39) (.b false), none⟩,
        ⟨some 6, .mv (.t 40), none⟩])
      (.ret))
      (.seq (.reg [⟨some 42, .bin .eql (.t 25) (.i 2), none⟩,
        ⟨some 41, .mv (.t 42), none⟩])
      (.cond (.t 41)
        (.seq (.reg [⟨some 43, .fa 2 (.t 7), none⟩,
          ⟨some 44, .ld false 1 (.t 43), none⟩,
          ⟨some 45, .bin .neq (.t 44) (.i 1), none⟩,
          ⟨some 46, .mv (.t 45), none⟩,
          ⟨some 47, .mv (.t 0), some (46, true)⟩,
          ⟨some 48, .mv (.t 1), some (46, true)⟩,
          ⟨some 49, .fa 1 (.t 7), some (46, true)⟩,
          ⟨some 50, .ld false 1 (.t 49), some (46, true)⟩,
          ⟨some 51, .call 171 [(.t 47), (.t 48), (.t 50)], some (46, true)⟩,
          ⟨some 52, .un .not (.t 51), some (46, true)⟩,
          ⟨some 53, .pick (.t 46) (.t 52) (.b false), none⟩,
          ⟨some 6, .mv (.t 53), none⟩])
        (.ret))
        (.seq (.reg [⟨some 55, .bin .eql (.t 25) (.i 3), none⟩,
          ⟨some 54, .mv (.t 55), none⟩])
        (.cond (.t 54)
          (.seq (.reg [⟨some 56, .fa 2 (.t 7), none⟩,
            ⟨some 57, .ld false 1 (.t 56), none⟩,
            ⟨some 58, .bin .eql (.t 57) (.i 1), none⟩,
            ⟨some 59, .mv (.t 58), none⟩,
            ⟨some 60, .mv (.t 0), some (59, true)⟩,
            ⟨some 61, .mv (.t 1), some (59, true)⟩,
            ⟨some 62, .fa 1 (.t 7), some (59, true)⟩,
            ⟨some 63, .ld false 1 (.t 62), some (59, true)⟩,
            ⟨some 64, .call 171 [(.t 60), (.t 61), (.t 63)], some (59, true)⟩,
            ⟨some 65, .mv (.t 64), some (59, true)⟩,
            ⟨some 66, .mv (.t 0), some (65, false)⟩,
            ⟨some 67, .mv (.t 1), some (65, false)⟩,
            ⟨some 68, .call 172 [(.t 66), (.t 67)], some (65, false)⟩,
            ⟨some 69, .bin .geq (.t 68) (.i 0), some (65, false)⟩,
            ⟨some 70, .pick (.t 65) (.b true) (.t 69), some (59, true)⟩,
            ⟨some 71, .pick (.t 59) (.t 70) (.b false), none⟩,
            ⟨some 6, .mv (.t 71), none⟩])
          (.ret))
          (.seq (.reg [⟨some 73, .bin .eql (.t 25) (.i 4), none⟩,
            ⟨some 72, .mv (.t 73), none⟩])
          (.cond (.t 72)
            (.seq (.reg [⟨some 74, .fa 2 (.t 7), none⟩,
              ⟨some 75, .ld false 1 (.t 74), none⟩,
              ⟨some 76, .bin .eql (.t 75) (.i 3), none⟩,
              ⟨some 77, .mv (.t 76), none⟩,
              ⟨some 78, .fa 2 (.t 7), some (77, false)⟩,
              ⟨some 79, .ld false 1 (.t 78), some (77, false)⟩,
              ⟨some 80, .bin .eql (.t 79) (.i 4), some (77, false)⟩,
              ⟨some 81, .pick (.t 77) (.b true) (.t 80), none⟩,
              ⟨some 82, .mv (.t 81), none⟩,
              ⟨some 83, .mv (.t 0), some (82, true)⟩,
              ⟨some 84, .mv (.t 1), some (82, true)⟩,
              ⟨some 85, .call 173 [(.t 83), (.t 84)], some (82, true)⟩,
              ⟨some 86, .bin .geq (.t 85) (.i 0), some (82, true)⟩,
              ⟨some 87, .pick (.t 82) (.t 86) (.b false), none⟩,
              ⟨some 6, .mv (.t 87), none⟩])
            (.ret))
            (.seq (.reg [⟨some 89, .bin .eql (.t 25) (.i 5), none⟩,
              ⟨some 88, .mv (.t 89), none⟩])
            (.cond (.t 88)
              (.seq (.reg [⟨some 90, .fa 2 (.t 7), none⟩,
                ⟨some 91, .ld false 1 (.t 90), none⟩,
                ⟨some 92, .bin .eql (.t 91) (.i 4), none⟩,
                ⟨some 93, .mv (.t 92), none⟩,
                ⟨some 94, .mv (.t 0), some (93, true)⟩,
                ⟨some 95, .mv (.t 1), some (93, true)⟩,
                ⟨some 96, .call 174 [(.t 94), (.t 95)], some (93, true)⟩,
                ⟨some 97, .un .not (.t 96), some (93, true)⟩,
                ⟨some 98, .pick (.t 93) (.t 97) (.b false), none⟩,
                ⟨some 6, .mv (.t 98), none⟩])
              (.ret))
              (.seq (.reg [⟨some 100, .bin .eql (.t 25) (.i 6), none⟩,
                ⟨some 99, .mv (.t 100), none⟩])
              (.cond (.t 99)
                (.seq (.reg [⟨some 101, .mv (.t 8), none⟩,
                  ⟨some 102, .mv (.t 101), none⟩,
                  ⟨some 103, .mv (.t 0), some (102, true)⟩,
                  ⟨some 104, .mv (.t 1), some (102, true)⟩,
                  ⟨some 105, .call 175 [(.t 103), (.t 104)], some (102, true)⟩,
                  ⟨some 106, .bin .geq (.t 105) (.i 0), some (102, true)⟩,
                  ⟨some 107, .pick (.t 102) (.t 106) (.b false), none⟩,
                  ⟨some 6, .mv (.t 107), none⟩])
                (.ret))
                (.seq (.reg [⟨some 109, .bin .eql (.t 25) (.i 7), none⟩,
                  ⟨some 108, .mv (.t 109), none⟩])
                (.cond (.t 108)
                  (.seq (.reg [⟨some 110, .mv (.t 9), none⟩,
                    ⟨some 111, .mv (.t 110), none⟩,
                    ⟨some 112, .mv (.t 0), some (111, true)⟩,
                    ⟨some 113, .mv (.t 1), some (111, true)⟩,
                    ⟨some 114, .mv (.t 2), some (111, true)⟩,
                    ⟨some 115, .call 176 [(.t 112), (.t 113), (.t 114)], some (111, true)⟩,
                    ⟨some 116, .un .not (.t 115), some (111, true)⟩,
                    ⟨some 117, .pick (.t 111) (.t 116) (.b false), none⟩,
                    ⟨some 6, .mv (.t 117), none⟩])
                  (.ret))
                  (.seq (.reg [⟨some 119, .bin .eql (.t 25) (.i 8), none⟩,
                    ⟨some 118, .mv (.t 119), none⟩])
                  (.cond (.t 118)
                    (.seq (.reg [⟨some 120, .mv (.t 9), none⟩,
                      ⟨some 121, .mv (.t 120), none⟩,
                      ⟨some 122, .fa 5 (.t 7), some (121, true)⟩,
                      ⟨some 123, .ld false 1 (.t 122), some (121, true)⟩,
                      ⟨some 124, .bin .eql (.t 123) (.i 2), some (121, true)⟩,
                      ⟨some 125, .pick (.t 121) (.t 124) (.b false), none⟩,
                      ⟨some 126, .mv (.t 125), none⟩,
                      ⟨some 127, .mv (.t 0), some (126, true)⟩,
                      ⟨some 128, .mv (.t 1), some (126, true)⟩,
                      ⟨some 129, .mv (.t 2), some (126, true)⟩,
                      ⟨some 130, .call 176 [(.t 127), (.t 128), (.t 129)], some (126, true)⟩,
                      ⟨some 131, .un .not (.t 130), some (126, true)⟩,
                      ⟨some 132, .pick (.t 126) (.t 131) (.b false), none⟩,
                      ⟨some 6, .mv (.t 132), none⟩])
                    (.ret))
                    (.seq (.reg [⟨some 134, .bin .eql (.t 25) (.i 9), none⟩,
                      ⟨some 133, .mv (.t 134), none⟩])
                    (.cond (.t 133)
                      (.seq (.reg [⟨some 135, .mv (.t 9), none⟩,
                        ⟨some 136, .mv (.t 135), none⟩,
                        ⟨some 137, .fa 5 (.t 7), some (136, true)⟩,
                        ⟨some 138, .ld false 1 (.t 137), some (136, true)⟩,
                        ⟨some 139, .bin .eql (.t 138) (.i 3), some (136, true)⟩,
                        ⟨some 140, .pick (.t 136) (.t 139) (.b false), none⟩,
                        ⟨some 141, .mv (.t 140), none⟩,
                        ⟨some 142, .mv (.t 0), some (141, true)⟩,
                        ⟨some 143, .mv (.t 1), some (141, true)⟩,
                        ⟨some 144, .mv (.t 2), some (141, true)⟩,
                        ⟨some 145, .call 176 [(.t 142), (.t 143), (.t 144)], some (141, true)⟩,
                        ⟨some 146, .un .not (.t 145), some (141, true)⟩,
                        ⟨some 147, .pick (.t 141) (.t 146) (.b false), none⟩,
                        ⟨some 6, .mv (.t 147), none⟩])
                      (.ret))
                      (.skip)))))))))))))))))))))
  (.seq (.reg [⟨some 6, .mv (.b false), none⟩])
  (.ret))))))⟩

set_option maxHeartbeats 4000000 in
theorem does126 (as : List AV) (hok : ok 64 as) : Does tb126 af126 conBreaksS as := by
  cases h : (conBreaksS).run as with
  | none => exact does_none h
  | some out =>
    have h' := h
    simp only [conBreaksS] at h'
    split at h'
    · rename_i l i c
      by_cases hp : 0 ≤ i ∧ i < l.length
      case neg => simp [guardP, hp] at h'
      rw [guardP_pos hp] at h'
      obtain ⟨hp1, hp2⟩ := hp
      simp only [ok] at hok
      obtain ⟨⟨hlen, _⟩, _⟩ := hok
      simp only [Option.some.injEq] at h'
      subst h'
      have hmo : (most : Int) = 1099511627776 := rfl
      have hml : (maxLen : Int) = 9223372036854775807 := rfl
      with_reducible refine does_by h fun Q hQ => ?_
      clear h
      dsimp only [af126, conBreaksS, go_sem, Nat.reduceAdd, Nat.reduceMul, Nat.reduceSub, Nat.reduceBEq, Nat.reduceLeDiff, Nat.reduceEqDiff, ↓dreduceIte, toG, tb126_171, tb126_172, tb126_173, tb126_174, tb126_175, tb126_176, conBorn, conKnown, conLives, conRise, conSent, conTwin]
      repeat' first
        | with_reducible refine kon_seq ?_
        | with_reducible refine kon_nil ?_
        | with_reducible refine kon_any ?_ ?_
        | with_reducible exact kon_any_nil
        | with_reducible refine kon_skip ?_
        | with_reducible refine kon_block ?_
        | with_reducible refine kon_ret ?_
        | with_reducible refine kon_exit ?_
        | with_reducible refine kon_past_ret ?_
        | with_reducible refine kon_past_exit ?_
        | with_reducible refine kon_blk_ret ?_
        | with_reducible refine kon_blk_end ?_
        | with_reducible refine kon_blk_exit ?_
        | (with_reducible refine kon_blk_past ?_ ?_
           · decide)
        | with_reducible refine loop_exit ?_
        | with_reducible refine loop_ret ?_
        | with_reducible refine mid_exit ?_
        | with_reducible refine mid_ret ?_
        | ((first | with_reducible refine kon_bin fun R hR => ?_ | with_reducible refine kon_conv fun R hR => ?_)
           dsimp only [go_sem, Nat.reduceAdd, Nat.reduceMul, Nat.reduceSub, Nat.reduceBEq, Nat.reduceLeDiff, Nat.reduceEqDiff, ↓dreduceIte, toG, tb126_171, tb126_172, tb126_173, tb126_174, tb126_175, tb126_176, conBorn, conKnown, conLives, conRise, conSent, conTwin]
           try simp (disch := first | omega | (simp only [List.length_set, List.length_append, List.length_cons, List.length_nil, List.length_replicate]; omega)) only [guardP_T, guardP_pos, iteN, rd_set, List.set_set, List.length_set, eta_fact, eta_rumor, eta_doubt, eta_item, eta_rec, eta_due, look, look0, rd_toNat, wrap64, Int.toNat_natCast, Nat.zero_add, List.take_length, List.drop_zero, and_self, setB_len, true_and, and_true]
           with_reducible refine hR _ ?_
           clear hR R)
        | (with_reducible refine kon_ins fun R hR => ?_
           dsimp only [go_sem, Nat.reduceAdd, Nat.reduceMul, Nat.reduceSub, Nat.reduceBEq, Nat.reduceLeDiff, Nat.reduceEqDiff, ↓dreduceIte, toG, tb126_171, tb126_172, tb126_173, tb126_174, tb126_175, tb126_176, conBorn, conKnown, conLives, conRise, conSent, conTwin]
           first
             | with_reducible refine hR _ ?_
             | (simp (disch := first | omega | (simp only [List.length_set, List.length_append, List.length_cons, List.length_nil, List.length_replicate]; omega)) only [guardP_T, guardP_pos, iteN, rd_set, List.set_set, List.length_set, eta_fact, eta_rumor, eta_doubt, eta_item, eta_rec, eta_due, look, look0, rd_toNat, wrap64, Int.toNat_natCast, Nat.zero_add, List.take_length, List.drop_zero, and_self, setB_len, true_and, and_true]
                try dsimp only [go_sem, Nat.reduceAdd, Nat.reduceMul, Nat.reduceSub, Nat.reduceBEq, Nat.reduceLeDiff, Nat.reduceEqDiff, ↓dreduceIte, toG, tb126_171, tb126_172, tb126_173, tb126_174, tb126_175, tb126_176, conBorn, conKnown, conLives, conRise, conSent, conTwin]
                try simp (disch := first | omega | (simp only [List.length_set, List.length_append, List.length_cons, List.length_nil, List.length_replicate]; omega)) only [guardP_T, guardP_pos, iteN, rd_set, List.set_set, List.length_set, eta_fact, eta_rumor, eta_doubt, eta_item, eta_rec, eta_due, look, look0, rd_toNat, wrap64, Int.toNat_natCast, Nat.zero_add, List.take_length, List.drop_zero, and_self, setB_len, true_and, and_true]
                with_reducible refine hR _ ?_)
           clear hR R)
        | (with_reducible refine kon_g_run ?_ ?_
           · dsimp only [nth] <;> with_reducible rfl)
        | (with_reducible refine kon_g_skip ?_ ?_
           · dsimp only [nth, not_t', not_f'] <;> with_reducible rfl
           dsimp only [go_sem])
        | (with_reducible refine kon_g_undef ?_ ?_
           · dsimp only [nth] <;> with_reducible rfl
           dsimp only [go_sem])
        | (with_reducible refine kon_g fun R hR => ?_
           dsimp only [go_sem, Nat.reduceAdd, Nat.reduceMul, Nat.reduceSub, Nat.reduceBEq, Nat.reduceLeDiff, Nat.reduceEqDiff, ↓dreduceIte, toG, tb126_171, tb126_172, tb126_173, tb126_174, tb126_175, tb126_176, conBorn, conKnown, conLives, conRise, conSent, conTwin]
           split <;> (rename_i hb; with_reducible refine hR _ ?_; clear hR R; try simp only [hb]; try simp only [decide_eq_true_eq, decide_eq_false_iff_not, beq_iff_eq, beq_eq_false_iff_ne, bne_iff_ne, bne_eq_false_iff_eq, Bool.not_eq_true, Bool.not_eq_false, Bool.not_eq_eq_eq_not, Bool.not_true, Bool.not_false, ne_eq, Int.not_lt, Int.not_le, eq_self, not_true_eq_false, not_false_eq_true, decide_true, decide_false, Bool.and_eq_true, Bool.or_eq_true, Bool.and_eq_false_iff, Bool.or_eq_false_iff, gt_iff_lt, ge_iff_le, Bool.false_eq_true, Bool.true_eq_false, reduceCtorEq, or_false, false_or, or_true, true_or, false_and, and_false] at hb; try (exfalso; omega)))
        | (with_reducible refine kon_cond fun R1 R2 h1 h2 => ?_
           dsimp only [go_sem]
           first
             | (with_reducible refine h1 ?_; clear h1 h2 R1 R2)
             | (with_reducible refine h2 ?_; clear h1 h2 R1 R2)
             | ((split <;> rename_i hb <;> first
                 | (with_reducible refine h1 ?_; clear h1 h2 R1 R2; try simp only [hb])
                 | (with_reducible refine h2 ?_; clear h1 h2 R1 R2; try simp only [hb])) <;> (try simp only [decide_eq_true_eq, decide_eq_false_iff_not, beq_iff_eq, beq_eq_false_iff_ne, bne_iff_ne, bne_eq_false_iff_eq, Bool.not_eq_true, Bool.not_eq_false, Bool.not_eq_eq_eq_not, Bool.not_true, Bool.not_false, ne_eq, Int.not_lt, Int.not_le, eq_self, not_true_eq_false, not_false_eq_true, decide_true, decide_false, Bool.and_eq_true, Bool.or_eq_true, Bool.and_eq_false_iff, Bool.or_eq_false_iff, gt_iff_lt, ge_iff_le, Bool.false_eq_true, Bool.true_eq_false, reduceCtorEq, or_false, false_or, or_true, true_or, false_and, and_false] at hb; try (exfalso; omega))))
      all_goals first
        | (dsimp only [kon]
           with_reducible refine hQ _ _ _ ?_
           dsimp only [kon, endQ, af126, conBreaksS, go_sem, Nat.reduceAdd, Nat.reduceMul, Nat.reduceSub, Nat.reduceBEq, Nat.reduceLeDiff, Nat.reduceEqDiff, ↓dreduceIte, toG, tb126_171, tb126_172, tb126_173, tb126_174, tb126_175, tb126_176, conBorn, conKnown, conLives, conRise, conSent, conTwin]
           try simp (disch := first | omega | (simp only [List.length_set, List.length_append, List.length_cons, List.length_nil, List.length_replicate]; omega)) only [guardP_T, guardP_pos, iteN, rd_set, List.set_set, List.length_set, eta_fact, eta_rumor, eta_doubt, eta_item, eta_rec, eta_due, look, look0, rd_toNat, wrap64, Int.toNat_natCast, Nat.zero_add, List.take_length, List.drop_zero, and_self, setB_len, true_and, and_true]
           try dsimp only [go_sem, Nat.reduceAdd, Nat.reduceMul, Nat.reduceSub, Nat.reduceBEq, Nat.reduceLeDiff, Nat.reduceEqDiff, ↓dreduceIte, toG, tb126_171, tb126_172, tb126_173, tb126_174, tb126_175, tb126_176, conBorn, conKnown, conLives, conRise, conSent, conTwin])
        | skip
      all_goals try first
        | omega
        | (simp; done)
        | (simp; omega)
      all_goals first
        | (simp_all [breaksS]; done)
        | (subst_vars
           simp only [breaksS, if_true, decide_eq_false (show ¬(0 < i) by omega), Bool.false_and])
    · simp at h'

end Go.Proofs.Ytnghlmogcbmlfaa
