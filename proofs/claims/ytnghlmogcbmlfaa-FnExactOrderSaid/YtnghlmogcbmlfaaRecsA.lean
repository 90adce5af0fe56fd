/- Records: what a right one is. -/
import Derived.Test.YtnghlmogcbmlfaaBaseA
namespace Go.Proofs.Ytnghlmogcbmlfaa
set_option linter.unusedVariables false
set_option linter.unusedSimpArgs false
set_option linter.unnecessarySimpa false

/-- A right record. -/
def recOk (x : Rec) : Bool := inr x.at_ 0 1000000 && (inr x.node 1 6 && (
  if x.kind = 1 then inr x.a 0 1000000 && (x.b == 0 && x.c == 0)
  else if x.kind = 2 then x.a == 0 && (x.b == 0 && x.c == 0)
  else if x.kind = 3 ∨ x.kind = 4 then inr x.a 0 1000000 && (inr x.b 1 6 && x.c == 0)
  else if x.kind = 5 then inr x.a 1 6 && (inr x.b 0 1000000 && inr x.c 1 3)
  else if x.kind = 6 then inr x.a 1 6 && (x.b == 0 && x.c == 0)
  else false))

def factOk (x : Fact) : Bool := inr x.node 1 6 && (inr x.inc 0 1000000 && inr x.status 1 3)

def conFact : Con := ⟨[.v], .v, fun as => match as with
  | [.agg [.int .i64 a, .int .i64 b, .int .i64 c]] => some (.bool (factOk ⟨a, b, c⟩), [])
  | _ => none⟩

def conRecOk : Con := ⟨[.v], .v, fun as => match as with
  | [.agg [.int .i64 a, .int .i64 b, .int .i64 c, .int .i64 d, .int .i64 e, .int .i64 f]] => some (.bool (recOk (⟨a, b, c, d, e, f⟩ : Rec)), [])
  | _ => none⟩

def recsOk (l : List Rec) : Bool := decide (l.length ≤ 400) && l.all recOk

def conRecsOk : Con := ⟨[.imm .rcd], .v, fun as => match as with
  | [.sl .rcd l] => some (.bool (recsOk l), [])
  | _ => none⟩

/-- The last place ahead of one at which a record is so; -1 without one. -/
def lastI (p : Rec → Bool) (l : List Rec) : Nat → Int
  | 0 => -1
  | n + 1 => if p (rd l n) then n else lastI p l n

theorem lastI_step {p : Rec → Bool} {l : List Rec} {k : Int} (h : 0 ≤ k) : lastI p l (k + 1).toNat = if p (rd l k) then k else lastI p l k.toNat := by
  rw [succ_toNat h, lastI, rd_toNat, show ((k.toNat : Nat) : Int) = k by omega]

theorem lastI_lt (p : Rec → Bool) (l : List Rec) (n : Nat) : lastI p l n < n := by
  induction n with
  | zero => simp [lastI]
  | succ n ih =>
    simp only [lastI]
    split <;> omega

theorem lastI_ge (p : Rec → Bool) (l : List Rec) (n : Nat) : -1 ≤ lastI p l n := by
  induction n with
  | zero => simp [lastI]
  | succ n ih =>
    simp only [lastI]
    split <;> omega

theorem lastI_at {p : Rec → Bool} {l : List Rec} {n : Nat} (h : 0 ≤ lastI p l n) : p (rd l (lastI p l n)) = true := by
  induction n with
  | zero => simp [lastI] at h
  | succ n ih =>
    simp only [lastI] at h ⊢
    split
    · assumption
    · rename_i hn
      rw [if_neg hn] at h
      exact ih h

/-- The first place at which a record is so; -1 without one. -/
def firstI (p : Rec → Bool) : List Rec → Int → Int
  | [], _ => -1
  | x :: r, n => if p x then n else firstI p r (n + 1)

theorem firstI_any (p : Rec → Bool) (l : List Rec) (n : Int) (hn : 0 ≤ n) : 0 ≤ firstI p l n ↔ l.any p = true := by
  induction l generalizing n with
  | nil => simp [firstI]
  | cons x r ih =>
    simp only [firstI, List.any_cons]
    split
    · simp [*]
    · rw [ih (n + 1) (by omega)]
      simp [*]

theorem firstI_lt (p : Rec → Bool) (l : List Rec) (n : Int) (hn : 0 ≤ n) : firstI p l n < n + l.length ∧ -1 ≤ firstI p l n := by
  induction l generalizing n with
  | nil => simp [firstI]; omega
  | cons x r ih =>
    simp only [firstI, List.length_cons]
    split
    · omega
    · have := ih (n + 1) (by omega)
      omega

def notOk (r : Rec) : Bool := !recOk r
def gotP (a : Int) (r : Rec) : Bool := r.kind == 4 && r.a == a
def lifeP (node : Int) (r : Rec) : Bool := r.node == node && (r.kind == 1 || r.kind == 2)
def nodeP (node : Int) (r : Rec) : Bool := r.node == node
def sentP (x : Rec) (r : Rec) : Bool := r.kind == 3 && (r.a == x.a && (r.node == x.b && r.b == x.node))
def isLife (r : Rec) : Bool := r.kind == 1 || r.kind == 2

def conIsLife : Con := ⟨[.v], .v, fun as => match as with
  | [.agg [.int .i64 a, .int .i64 b, .int .i64 c, .int .i64 d, .int .i64 e, .int .i64 f]] => some (.bool (isLife (⟨a, b, c, d, e, f⟩ : Rec)), [])
  | _ => none⟩

def tb139 : Tab := fun f => match f with
  | 77 => some conNode
  | 97 => some conTime
  | 130 => some conIn
  | _ => none

theorem tb139_77 : tb139 77 = some conNode := rfl
theorem tb139_97 : tb139 97 = some conTime := rfl
theorem tb139_130 : tb139 130 = some conIn := rfl

-- loop.example/g00678/impl.FactRight hows []
def af139 : AF := ⟨16, [.t 2],
  .seq (.reg [⟨some 1, .box (.t 0), none⟩,
    ⟨some 2, .mv (.b false), none⟩])
  (.seq (.reg [⟨some 3, .fa 0 (.t 1), none⟩,
    ⟨some 4, .ld false 1 (.t 3), none⟩,
    ⟨some 5, .call 77 [(.t 4)], none⟩,
    ⟨some 6, .mv (.t 5), none⟩,
    ⟨some 7, .fa 1 (.t 1), some (6, true)⟩,
    ⟨some 8, .ld false 1 (.t 7), some (6, true)⟩,
    ⟨some 9, .call 97 [(.t 8)], some (6, true)⟩,
    ⟨some 10, .pick (.t 6) (.t 9) (.b false), none⟩,
    ⟨some 11, .mv (.t 10), none⟩,
    ⟨some 12, .fa 2 (.t 1), some (11, true)⟩,
    ⟨some 13, .ld false 1 (.t 12), some (11, true)⟩,
    ⟨some 14, .call 130 [(.t 13), (.i 1), (.i 3)], some (11, true)⟩,
    ⟨some 15, .pick (.t 11) (.t 14) (.b false), none⟩,
    ⟨some 2, .mv (.t 15), none⟩])
  (.ret))⟩

set_option maxHeartbeats 4000000 in
theorem does139 (as : List AV) (hok : ok 64 as) : Does tb139 af139 conFact as := by
  cases h : (conFact).run as with
  | none => exact does_none h
  | some out =>
    have h' := h
    simp only [conFact] at h'
    split at h'
    · rename_i a b c
      simp only [Option.some.injEq] at h'
      subst h'
      have hmo : (most : Int) = 1099511627776 := rfl
      have hml : (maxLen : Int) = 9223372036854775807 := rfl
      with_reducible refine does_by h fun Q hQ => ?_
      clear h
      dsimp only [af139, conFact, go_sem, Nat.reduceAdd, Nat.reduceMul, Nat.reduceSub, Nat.reduceBEq, Nat.reduceLeDiff, Nat.reduceEqDiff, ↓dreduceIte, toG, tb139_77, tb139_97, tb139_130, conIn, conNode, conTime]
      repeat' first
        | with_reducible refine kon_seq ?_
        | with_reducible refine kon_nil ?_
        | with_reducible refine kon_any ?_ ?_
        | with_reducible exact kon_any_nil
        | with_reducible refine kon_skip ?_
        | with_reducible refine kon_block ?_
        | with_reducible refine kon_ret ?_
        | with_reducible refine kon_exit ?_
        | with_reducible refine kon_past_ret ?_
        | with_reducible refine kon_past_exit ?_
        | with_reducible refine kon_blk_ret ?_
        | with_reducible refine kon_blk_end ?_
        | with_reducible refine kon_blk_exit ?_
        | (with_reducible refine kon_blk_past ?_ ?_
           · decide)
        | with_reducible refine loop_exit ?_
        | with_reducible refine loop_ret ?_
        | with_reducible refine mid_exit ?_
        | with_reducible refine mid_ret ?_
        | ((first | with_reducible refine kon_bin fun R hR => ?_ | with_reducible refine kon_conv fun R hR => ?_)
           dsimp only [go_sem, Nat.reduceAdd, Nat.reduceMul, Nat.reduceSub, Nat.reduceBEq, Nat.reduceLeDiff, Nat.reduceEqDiff, ↓dreduceIte, toG, tb139_77, tb139_97, tb139_130, conIn, conNode, conTime]
           try simp (disch := first | omega | (simp only [List.length_set, List.length_append, List.length_cons, List.length_nil, List.length_replicate]; omega)) only [guardP_T, guardP_pos, iteN, rd_set, List.set_set, List.length_set, eta_fact, eta_rumor, eta_doubt, eta_item, eta_rec, eta_due, look, look0, rd_toNat, wrap64, Int.toNat_natCast, Nat.zero_add, List.take_length, List.drop_zero, and_self, setB_len, true_and, and_true]
           with_reducible refine hR _ ?_
           clear hR R)
        | (with_reducible refine kon_ins fun R hR => ?_
           dsimp only [go_sem, Nat.reduceAdd, Nat.reduceMul, Nat.reduceSub, Nat.reduceBEq, Nat.reduceLeDiff, Nat.reduceEqDiff, ↓dreduceIte, toG, tb139_77, tb139_97, tb139_130, conIn, conNode, conTime]
           first
             | with_reducible refine hR _ ?_
             | (simp (disch := first | omega | (simp only [List.length_set, List.length_append, List.length_cons, List.length_nil, List.length_replicate]; omega)) only [guardP_T, guardP_pos, iteN, rd_set, List.set_set, List.length_set, eta_fact, eta_rumor, eta_doubt, eta_item, eta_rec, eta_due, look, look0, rd_toNat, wrap64, Int.toNat_natCast, Nat.zero_add, List.take_length, List.drop_zero, and_self, setB_len, true_and, and_true]
                try dsimp only [go_sem, Nat.reduceAdd, Nat.reduceMul, Nat.reduceSub, Nat.reduceBEq, Nat.reduceLeDiff, Nat.reduceEqDiff, ↓dreduceIte, toG, tb139_77, tb139_97, tb139_130, conIn, conNode, conTime]
                try simp (disch := first | omega | (simp only [List.length_set, List.length_append, List.length_cons, List.length_nil, List.length_replicate]; omega)) only [guardP_T, guardP_pos, iteN, rd_set, List.set_set, List.length_set, eta_fact, eta_rumor, eta_doubt, eta_item, eta_rec, eta_due, look, look0, rd_toNat, wrap64, Int.toNat_natCast, Nat.zero_add, List.take_length, List.drop_zero, and_self, setB_len, true_and, and_true]
                with_reducible refine hR _ ?_)
           clear hR R)
        | (with_reducible refine kon_g_run ?_ ?_
           · dsimp only [nth] <;> with_reducible rfl)
        | (with_reducible refine kon_g_skip ?_ ?_
           · dsimp only [nth, not_t', not_f'] <;> with_reducible rfl
           dsimp only [go_sem])
        | (with_reducible refine kon_g_undef ?_ ?_
           · dsimp only [nth] <;> with_reducible rfl
           dsimp only [go_sem])
        | (with_reducible refine kon_g fun R hR => ?_
           dsimp only [go_sem, Nat.reduceAdd, Nat.reduceMul, Nat.reduceSub, Nat.reduceBEq, Nat.reduceLeDiff, Nat.reduceEqDiff, ↓dreduceIte, toG, tb139_77, tb139_97, tb139_130, conIn, conNode, conTime]
           split <;> (rename_i hb; with_reducible refine hR _ ?_; clear hR R; try simp only [hb]; try simp only [decide_eq_true_eq, decide_eq_false_iff_not, beq_iff_eq, beq_eq_false_iff_ne, bne_iff_ne, bne_eq_false_iff_eq, Bool.not_eq_true, Bool.not_eq_false, Bool.not_eq_eq_eq_not, Bool.not_true, Bool.not_false, ne_eq, Int.not_lt, Int.not_le, eq_self, not_true_eq_false, not_false_eq_true, decide_true, decide_false, Bool.and_eq_true, Bool.or_eq_true, Bool.and_eq_false_iff, Bool.or_eq_false_iff, gt_iff_lt, ge_iff_le, Bool.false_eq_true, Bool.true_eq_false, reduceCtorEq, or_false, false_or, or_true, true_or, false_and, and_false] at hb; try (exfalso; omega)))
        | (with_reducible refine kon_cond fun R1 R2 h1 h2 => ?_
           dsimp only [go_sem]
           first
             | (with_reducible refine h1 ?_; clear h1 h2 R1 R2)
             | (with_reducible refine h2 ?_; clear h1 h2 R1 R2)
             | ((split <;> rename_i hb <;> first
                 | (with_reducible refine h1 ?_; clear h1 h2 R1 R2; try simp only [hb])
                 | (with_reducible refine h2 ?_; clear h1 h2 R1 R2; try simp only [hb])) <;> (try simp only [decide_eq_true_eq, decide_eq_false_iff_not, beq_iff_eq, beq_eq_false_iff_ne, bne_iff_ne, bne_eq_false_iff_eq, Bool.not_eq_true, Bool.not_eq_false, Bool.not_eq_eq_eq_not, Bool.not_true, Bool.not_false, ne_eq, Int.not_lt, Int.not_le, eq_self, not_true_eq_false, not_false_eq_true, decide_true, decide_false, Bool.and_eq_true, Bool.or_eq_true, Bool.and_eq_false_iff, Bool.or_eq_false_iff, gt_iff_lt, ge_iff_le, Bool.false_eq_true, Bool.true_eq_false, reduceCtorEq, or_false, false_or, or_true, true_or, false_and, and_false] at hb; try (exfalso; omega))))
      all_goals first
        | (dsimp only [kon]
           with_reducible refine hQ _ _ _ ?_
           dsimp only [kon, endQ, af139, conFact, go_sem, Nat.reduceAdd, Nat.reduceMul, Nat.reduceSub, Nat.reduceBEq, Nat.reduceLeDiff, Nat.reduceEqDiff, ↓dreduceIte, toG, tb139_77, tb139_97, tb139_130, conIn, conNode, conTime]
           try simp (disch := first | omega | (simp only [List.length_set, List.length_append, List.length_cons, List.length_nil, List.length_replicate]; omega)) only [guardP_T, guardP_pos, iteN, rd_set, List.set_set, List.length_set, eta_fact, eta_rumor, eta_doubt, eta_item, eta_rec, eta_due, look, look0, rd_toNat, wrap64, Int.toNat_natCast, Nat.zero_add, List.take_length, List.drop_zero, and_self, setB_len, true_and, and_true]
           try dsimp only [go_sem, Nat.reduceAdd, Nat.reduceMul, Nat.reduceSub, Nat.reduceBEq, Nat.reduceLeDiff, Nat.reduceEqDiff, ↓dreduceIte, toG, tb139_77, tb139_97, tb139_130, conIn, conNode, conTime])
        | skip
      all_goals try first
        | omega
        | (simp; done)
        | (simp; omega)
      all_goals first
        | (simp_all [factOk, inr]; done)
        | (simp [factOk, inr]; omega)
        | (simp_all [factOk, inr]; omega)
        | (simp only [Option.some.injEq, Prod.mk.injEq, AV.bool.injEq, and_true]
           rw [Bool.eq_iff_iff]
           simp only [factOk, inr, Bool.and_eq_true, Bool.or_eq_true, decide_eq_true_eq, beq_iff_eq, Bool.false_eq_true, false_iff, true_iff, iff_true, iff_false]
           omega)
    · simp at h'

def tb155 : Tab := fun f => match f with
  | 75 => some conNode
  | 85 => some conTime
  | 125 => some conIn
  | _ => none

theorem tb155_75 : tb155 75 = some conNode := rfl
theorem tb155_85 : tb155 85 = some conTime := rfl
theorem tb155_125 : tb155 125 = some conIn := rfl

-- loop.example/g00678/spec.FactRight hows []
def af155 : AF := ⟨16, [.t 2],
  .seq (.reg [⟨some 1, .box (.t 0), none⟩,
    ⟨some 2, .mv (.b false), none⟩])
  (.seq (.reg [⟨some 3, .fa 0 (.t 1), none⟩,
    ⟨some 4, .ld false 1 (.t 3), none⟩,
    ⟨some 5, .call 75 [(.t 4)], none⟩,
    ⟨some 6, .mv (.t 5), none⟩,
    ⟨some 7, .fa 1 (.t 1), some (6, true)⟩,
    ⟨some 8, .ld false 1 (.t 7), some (6, true)⟩,
    ⟨some 9, .call 85 [(.t 8)], some (6, true)⟩,
    ⟨some 10, .pick (.t 6) (.t 9) (.b false), none⟩,
    ⟨some 11, .mv (.t 10), none⟩,
    ⟨some 12, .fa 2 (.t 1), some (11, true)⟩,
    ⟨some 13, .ld false 1 (.t 12), some (11, true)⟩,
    ⟨some 14, .call 125 [(.t 13), (.i 1), (.i 3)], some (11, true)⟩,
    ⟨some 15, .pick (.t 11) (.t 14) (.b false), none⟩,
    ⟨some 2, .mv (.t 15), none⟩])
  (.ret))⟩

set_option maxHeartbeats 4000000 in
theorem does155 (as : List AV) (hok : ok 64 as) : Does tb155 af155 conFact as := by
  cases h : (conFact).run as with
  | none => exact does_none h
  | some out =>
    have h' := h
    simp only [conFact] at h'
    split at h'
    · rename_i a b c
      simp only [Option.some.injEq] at h'
      subst h'
      have hmo : (most : Int) = 1099511627776 := rfl
      have hml : (maxLen : Int) = 9223372036854775807 := rfl
      with_reducible refine does_by h fun Q hQ => ?_
      clear h
      dsimp only [af155, conFact, go_sem, Nat.reduceAdd, Nat.reduceMul, Nat.reduceSub, Nat.reduceBEq, Nat.reduceLeDiff, Nat.reduceEqDiff, ↓dreduceIte, toG, tb155_75, tb155_85, tb155_125, conIn, conNode, conTime]
      repeat' first
        | with_reducible refine kon_seq ?_
        | with_reducible refine kon_nil ?_
        | with_reducible refine kon_any ?_ ?_
        | with_reducible exact kon_any_nil
        | with_reducible refine kon_skip ?_
        | with_reducible refine kon_block ?_
        | with_reducible refine kon_ret ?_
        | with_reducible refine kon_exit ?_
        | with_reducible refine kon_past_ret ?_
        | with_reducible refine kon_past_exit ?_
        | with_reducible refine kon_blk_ret ?_
        | with_reducible refine kon_blk_end ?_
        | with_reducible refine kon_blk_exit ?_
        | (with_reducible refine kon_blk_past ?_ ?_
           · decide)
        | with_reducible refine loop_exit ?_
        | with_reducible refine loop_ret ?_
        | with_reducible refine mid_exit ?_
        | with_reducible refine mid_ret ?_
        | ((first | with_reducible refine kon_bin fun R hR => ?_ | with_reducible refine kon_conv fun R hR => ?_)
           dsimp only [go_sem, Nat.reduceAdd, Nat.reduceMul, Nat.reduceSub, Nat.reduceBEq, Nat.reduceLeDiff, Nat.reduceEqDiff, ↓dreduceIte, toG, tb155_75, tb155_85, tb155_125, conIn, conNode, conTime]
           try simp (disch := first | omega | (simp only [List.length_set, List.length_append, List.length_cons, List.length_nil, List.length_replicate]; omega)) only [guardP_T, guardP_pos, iteN, rd_set, List.set_set, List.length_set, eta_fact, eta_rumor, eta_doubt, eta_item, eta_rec, eta_due, look, look0, rd_toNat, wrap64, Int.toNat_natCast, Nat.zero_add, List.take_length, List.drop_zero, and_self, setB_len, true_and, and_true]
           with_reducible refine hR _ ?_
           clear hR R)
        | (with_reducible refine kon_ins fun R hR => ?_
           dsimp only [go_sem, Nat.reduceAdd, Nat.reduceMul, Nat.reduceSub, Nat.reduceBEq, Nat.reduceLeDiff, Nat.reduceEqDiff, ↓dreduceIte, toG, tb155_75, tb155_85, tb155_125, conIn, conNode, conTime]
           first
             | with_reducible refine hR _ ?_
             | (simp (disch := first | omega | (simp only [List.length_set, List.length_append, List.length_cons, List.length_nil, List.length_replicate]; omega)) only [guardP_T, guardP_pos, iteN, rd_set, List.set_set, List.length_set, eta_fact, eta_rumor, eta_doubt, eta_item, eta_rec, eta_due, look, look0, rd_toNat, wrap64, Int.toNat_natCast, Nat.zero_add, List.take_length, List.drop_zero, and_self, setB_len, true_and, and_true]
                try dsimp only [go_sem, Nat.reduceAdd, Nat.reduceMul, Nat.reduceSub, Nat.reduceBEq, Nat.reduceLeDiff, Nat.reduceEqDiff, ↓dreduceIte, toG, tb155_75, tb155_85, tb155_125, conIn, conNode, conTime]
                try simp (disch := first | omega | (simp only [List.length_set, List.length_append, List.length_cons, List.length_nil, List.length_replicate]; omega)) only [guardP_T, guardP_pos, iteN, rd_set, List.set_set, List.length_set, eta_fact, eta_rumor, eta_doubt, eta_item, eta_rec, eta_due, look, look0, rd_toNat, wrap64, Int.toNat_natCast, Nat.zero_add, List.take_length, List.drop_zero, and_self, setB_len, true_and, and_true]
                with_reducible refine hR _ ?_)
           clear hR R)
        | (with_reducible refine kon_g_run ?_ ?_
           · dsimp only [nth] <;> with_reducible rfl)
        | (with_reducible refine kon_g_skip ?_ ?_
           · dsimp only [nth, not_t', not_f'] <;> with_reducible rfl
           dsimp only [go_sem])
        | (with_reducible refine kon_g_undef ?_ ?_
           · dsimp only [nth] <;> with_reducible rfl
           dsimp only [go_sem])
        | (with_reducible refine kon_g fun R hR => ?_
           dsimp only [go_sem, Nat.reduceAdd, Nat.reduceMul, Nat.reduceSub, Nat.reduceBEq, Nat.reduceLeDiff, Nat.reduceEqDiff, ↓dreduceIte, toG, tb155_75, tb155_85, tb155_125, conIn, conNode, conTime]
           split <;> (rename_i hb; with_reducible refine hR _ ?_; clear hR R; try simp only [hb]; try simp only [decide_eq_true_eq, decide_eq_false_iff_not, beq_iff_eq, beq_eq_false_iff_ne, bne_iff_ne, bne_eq_false_iff_eq, Bool.not_eq_true, Bool.not_eq_false, Bool.not_eq_eq_eq_not, Bool.not_true, Bool.not_false, ne_eq, Int.not_lt, Int.not_le, eq_self, not_true_eq_false, not_false_eq_true, decide_true, decide_false, Bool.and_eq_true, Bool.or_eq_true, Bool.and_eq_false_iff, Bool.or_eq_false_iff, gt_iff_lt, ge_iff_le, Bool.false_eq_true, Bool.true_eq_false, reduceCtorEq, or_false, false_or, or_true, true_or, false_and, and_false] at hb; try (exfalso; omega)))
        | (with_reducible refine kon_cond fun R1 R2 h1 h2 => ?_
           dsimp only [go_sem]
           first
             | (with_reducible refine h1 ?_; clear h1 h2 R1 R2)
             | (with_reducible refine h2 ?_; clear h1 h2 R1 R2)
             | ((split <;> rename_i hb <;> first
                 | (with_reducible refine h1 ?_; clear h1 h2 R1 R2; try simp only [hb])
                 | (with_reducible refine h2 ?_; clear h1 h2 R1 R2; try simp only [hb])) <;> (try simp only [decide_eq_true_eq, decide_eq_false_iff_not, beq_iff_eq, beq_eq_false_iff_ne, bne_iff_ne, bne_eq_false_iff_eq, Bool.not_eq_true, Bool.not_eq_false, Bool.not_eq_eq_eq_not, Bool.not_true, Bool.not_false, ne_eq, Int.not_lt, Int.not_le, eq_self, not_true_eq_false, not_false_eq_true, decide_true, decide_false, Bool.and_eq_true, Bool.or_eq_true, Bool.and_eq_false_iff, Bool.or_eq_false_iff, gt_iff_lt, ge_iff_le, Bool.false_eq_true, Bool.true_eq_false, reduceCtorEq, or_false, false_or, or_true, true_or, false_and, and_false] at hb; try (exfalso; omega))))
      all_goals first
        | (dsimp only [kon]
           with_reducible refine hQ _ _ _ ?_
           dsimp only [kon, endQ, af155, conFact, go_sem, Nat.reduceAdd, Nat.reduceMul, Nat.reduceSub, Nat.reduceBEq, Nat.reduceLeDiff, Nat.reduceEqDiff, ↓dreduceIte, toG, tb155_75, tb155_85, tb155_125, conIn, conNode, conTime]
           try simp (disch := first | omega | (simp only [List.length_set, List.length_append, List.length_cons, List.length_nil, List.length_replicate]; omega)) only [guardP_T, guardP_pos, iteN, rd_set, List.set_set, List.length_set, eta_fact, eta_rumor, eta_doubt, eta_item, eta_rec, eta_due, look, look0, rd_toNat, wrap64, Int.toNat_natCast, Nat.zero_add, List.take_length, List.drop_zero, and_self, setB_len, true_and, and_true]
           try dsimp only [go_sem, Nat.reduceAdd, Nat.reduceMul, Nat.reduceSub, Nat.reduceBEq, Nat.reduceLeDiff, Nat.reduceEqDiff, ↓dreduceIte, toG, tb155_75, tb155_85, tb155_125, conIn, conNode, conTime])
        | skip
      all_goals try first
        | omega
        | (simp; done)
        | (simp; omega)
      all_goals first
        | (simp_all [factOk, inr]; done)
        | (simp [factOk, inr]; omega)
        | (simp_all [factOk, inr]; omega)
        | (simp only [Option.some.injEq, Prod.mk.injEq, AV.bool.injEq, and_true]
           rw [Bool.eq_iff_iff]
           simp only [factOk, inr, Bool.and_eq_true, Bool.or_eq_true, decide_eq_true_eq, beq_iff_eq, Bool.false_eq_true, false_iff, true_iff, iff_true, iff_false]
           omega)
    · simp at h'

-- loop.example/g00678/spec.RecRight hows []
def af61 : AF := ⟨91, [.t 2],
  .seq (.reg [⟨some 1, .box (.t 0), none⟩,
    ⟨some 2, .mv (.b false), none⟩])
  (.seq (.seq (.reg [⟨some 3, .fa 0 (.t 1), none⟩,
    ⟨some 4, .ld false 1 (.t 3), none⟩,
    ⟨some 5, .call 85 [(.t 4)], none⟩,
    ⟨some 6, .un .not (.t 5), none⟩,
    ⟨some 7, .mv (.t 6), none⟩,
    ⟨some 8, .fa 1 (.t 1), some (7, false)⟩,
    ⟨some 9, .ld false 1 (.t 8), some (7, false)⟩,
    ⟨some 10, .call 75 [(.t 9)], some (7, false)⟩,
    ⟨some 11, .un .not (.t 10), some (7, false)⟩,
    ⟨some 12, .pick (.t 7) (.b true) (.t 11), none⟩])
  (.cond (.t 12)
    (.seq (.reg [⟨some 2, .mv (.b false), none⟩])
    (.ret))
    (.skip)))
  (.seq (.seq (.reg [⟨some 13, .fa 2 (.t 1), none⟩,
    ⟨some 14, .ld false 1 (.t 13), none⟩])
  (.block 0 (.seq (.reg [⟨some 16, .bin .eql (.t 14) (.i 1), none⟩,
      ⟨some 15, .mv (.t 16), none⟩])
    (.cond (.t 15)
      (.seq (.reg [⟨some 17, .fa 3 (.t 1), none⟩,
        ⟨some 18, .ld false 1 (.t 17), none⟩,
        ⟨some 19, .call 85 [(.t 18)], none⟩,
        ⟨some 20, .mv (.t 19), none⟩,
        ⟨some 21, .fa 4 (.t 1), some (20, true)⟩,
        ⟨some 22, .ld false 1 (.t 21), some (20, true)⟩,
        ⟨some 23, .bin .eql (.t 22) (.i 0), some (20, true)⟩,
        ⟨some 24, .pick (.t 20) (.t 23) (.b false), none⟩,
        ⟨some 25, .mv (.t 24), none⟩,
        ⟨some 26, .fa 5 (.t 1), some (25, true)⟩,
        ⟨some 27, .ld false 1 (.t 26), some (25, true)⟩,
        ⟨some 28, .bin .eql (.t 27) (.i 0), some (25, true)⟩,
        ⟨some 29, .pick (.t 25) (.t 28) (.b false), none⟩,
        ⟨some 2, .mv (.t 29), none⟩])
      (.ret))
      (.seq (.reg [⟨some 31, .bin .eql (.t 14) (.i 2), none⟩,
        ⟨some 30, .mv (.t 31), none⟩])
      (.cond (.t 30)
        (.seq (.reg [⟨some 32, .fa 3 (.t 1), none⟩,
          ⟨some 33, .ld false 1 (.t 32), none⟩,
          ⟨some 34, .bin .eql (.t 33) (.i 0), none⟩,
          ⟨some 35, .mv (.t 34), none⟩,
          ⟨some 36, .fa 4 (.t 1), some (35, true)⟩,
          ⟨some 37, .ld false 1 (.t 36), some (35, true)⟩,
          ⟨some 38, .bin .eql (.t 37) (.i 0), some (35, true)⟩,
          ⟨some 39, .pick (.t 35) (.t 38) (.b false), none⟩,
          ⟨some 40, .mv (.t 39), none⟩,
          ⟨some 41, .fa 5 (.t 1), some (40, true)⟩,
          ⟨some 42, .ld false 1 (.t 41), some (40, true)⟩,
          ⟨some 43, .bin .eql (.t 42) (.i 0), some (40, true)⟩,
          ⟨some 44, .pick (.t 40) (.t 43) (.b false), none⟩,
          ⟨some 2, .mv (.t 44), none⟩])
        (.ret))
        (.seq (.seq (.reg [⟨some 46, .bin .eql (.t 14) (.i 3), none⟩,
          ⟨some 45, .mv (.t 46), none⟩])
        (.cond (.t 45)
          (.skip)
          (.reg [⟨some 47, .bin .eql (.t 14) (.i 4), none⟩,
            ⟨some 45, .mv (.t 47), none⟩])))
        (.cond (.t 45)
          (.seq (.reg [⟨some 48, .fa 3 (.t 1), none⟩,
            ⟨some 49, .ld false 1 (.t 48), none⟩,
            ⟨some 50, .call 85 [(.t 49)], none⟩,
            ⟨some 51, .mv (.t 50), none⟩,
            ⟨some 52, .fa 4 (.t 1), some (51, true)⟩,
            ⟨some 53, .ld false 1 (.t 52), some (51, true)⟩,
            ⟨some 54, .call 75 [(.t 53)], some (51, true)⟩,
            ⟨some 55, .pick (.t 51) (.t 54) (.b false), none⟩,
            ⟨some 56, .mv (.t 55), none⟩,
            ⟨some 57, .fa 5 (.t 1), some (56, true)⟩,
            ⟨some 58, .ld false 1 (.t 57), some (56, true)⟩,
            ⟨some 59, .bin .eql (.t 58) (.i 0), some (56, true)⟩,
            ⟨some 60, .pick (.t 56) (.t 59) (.b false), none⟩,
            ⟨some 2, .mv (.t 60), none⟩])
          (.ret))
          (.seq (.reg [⟨some 62, .bin .eql (.t 14) (.i 5), none⟩,
            ⟨some 61, .mv (.t 62), none⟩])
          (.cond (.t 61)
            (.seq (.reg [⟨some 63, .fa 3 (.t 1), none⟩,
              ⟨some 64, .ld false 1 (.t 63), none⟩,
              ⟨some 65, .call 75 [(.t 64)], none⟩,
              ⟨some 66, .mv (.t 65), none⟩,
              ⟨some 67, .fa 4 (.t 1), some (66, true)⟩,
              ⟨some 68, .ld false 1 (.t 67), some (66, true)⟩,
              ⟨some 69, .call 85 [(.t 68)], some (66, true)⟩,
              ⟨some 70, .pick (.t 66) (.t 69) (.b false), none⟩,
              ⟨some 71, .mv (.t 70), none⟩,
              ⟨some 72, .fa 5 (.t 1), some (71, true)⟩,
              ⟨some 73, .ld false 1 (.t 72), some (71, true)⟩,
              ⟨some 74, .call 125 [(.t 73), (.i 1), (.i 3)], some (71, true)⟩,
              ⟨some 75, .pick (.t 71) (.t 74) (.b false), none⟩,
              ⟨some 2, .mv (.t 75), none⟩])
            (.ret))
            (.seq (.reg [⟨some 77, .bin .eql (.t 14) (.i 6), none⟩,
              ⟨some 76, .mv (.t 77), none⟩])
            (.cond (.t 76)
              (.seq (.reg [⟨some 78, .fa 3 (.t 1), none⟩,
                ⟨some 79, .ld false 1 (.t 78), none⟩,
                ⟨some 80, .call 75 [(.t 79)], none⟩,
                ⟨some 81, .mv (.t 80), none⟩,
                ⟨some 82, .fa 4 (.t 1), some (81, true)⟩,
                ⟨some 83, .ld false 1 (.t 82), some (81, true)⟩,
                ⟨some 84, .bin .eql (.t 83) (.i 0), some (81, true)⟩,
                ⟨some 85, .pick (.t 81) (.t 84) (.b false), none⟩,
                ⟨some 86, .mv (.t 85), none⟩,
                ⟨some 87, .fa 5 (.t 1), some (86, true)⟩,
                ⟨some 88, .ld false 1 (.t 87), some (86, true)⟩,
                ⟨some 89, .bin .eql (.t 88) (.i 0), some (86, true)⟩,
                ⟨some 90, .pick (.t 86) (.t 89) (.b false), none⟩,
                ⟨some 2, .mv (.t 90), none⟩])
              (.ret))
              (.skip)))))))))))))
  (.seq (.reg [⟨some 2, .mv (.b false), none⟩])
  (.ret))))⟩

set_option maxHeartbeats 4000000 in
theorem does61 (as : List AV) (hok : ok 64 as) : Does tb155 af61 conRecOk as := by
  cases h : (conRecOk).run as with
  | none => exact does_none h
  | some out =>
    have h' := h
    simp only [conRecOk] at h'
    split at h'
    · rename_i a b c d e f
      simp only [Option.some.injEq] at h'
      subst h'
      have hmo : (most : Int) = 1099511627776 := rfl
      have hml : (maxLen : Int) = 9223372036854775807 := rfl
      with_reducible refine does_by h fun Q hQ => ?_
      clear h
      dsimp only [af61, conRecOk, go_sem, Nat.reduceAdd, Nat.reduceMul, Nat.reduceSub, Nat.reduceBEq, Nat.reduceLeDiff, Nat.reduceEqDiff, ↓dreduceIte, toG, tb155_75, tb155_85, tb155_125, conIn, conNode, conTime]
      repeat' first
        | with_reducible refine kon_seq ?_
        | with_reducible refine kon_nil ?_
        | with_reducible refine kon_any ?_ ?_
        | with_reducible exact kon_any_nil
        | with_reducible refine kon_skip ?_
        | with_reducible refine kon_block ?_
        | with_reducible refine kon_ret ?_
        | with_reducible refine kon_exit ?_
        | with_reducible refine kon_past_ret ?_
        | with_reducible refine kon_past_exit ?_
        | with_reducible refine kon_blk_ret ?_
        | with_reducible refine kon_blk_end ?_
        | with_reducible refine kon_blk_exit ?_
        | (with_reducible refine kon_blk_past ?_ ?_
           · decide)
        | with_reducible refine loop_exit ?_
        | with_reducible refine loop_ret ?_
        | with_reducible refine mid_exit ?_
        | with_reducible refine mid_ret ?_
        | ((first | with_reducible refine kon_bin fun R hR => ?_ | with_reducible refine kon_conv fun R hR => ?_)
           dsimp only [go_sem, Nat.reduceAdd, Nat.reduceMul, Nat.reduceSub, Nat.reduceBEq, Nat.reduceLeDiff, Nat.reduceEqDiff, ↓dreduceIte, toG, tb155_75, tb155_85, tb155_125, conIn, conNode, conTime]
           try simp (disch := first | omega | (simp only [List.length_set, List.length_append, List.length_cons, List.length_nil, List.length_replicate]; omega)) only [guardP_T, guardP_pos, iteN, rd_set, List.set_set, List.length_set, eta_fact, eta_rumor, eta_doubt, eta_item, eta_rec, eta_due, look, look0, rd_toNat, wrap64, Int.toNat_natCast, Nat.zero_add, List.take_length, List.drop_zero, and_self, setB_len, true_and, and_true]
           with_reducible refine hR _ ?_
           clear hR R)
        | (with_reducible refine kon_ins fun R hR => ?_
           dsimp only [go_sem, Nat.reduceAdd, Nat.reduceMul, Nat.reduceSub, Nat.reduceBEq, Nat.reduceLeDiff, Nat.reduceEqDiff, ↓dreduceIte, toG, tb155_75, tb155_85, tb155_125, conIn, conNode, conTime]
           first
             | with_reducible refine hR _ ?_
             | (simp (disch := first | omega | (simp only [List.length_set, List.length_append, List.length_cons, List.length_nil, List.length_replicate]; omega)) only [guardP_T, guardP_pos, iteN, rd_set, List.set_set, List.length_set, eta_fact, eta_rumor, eta_doubt, eta_item, eta_rec, eta_due, look, look0, rd_toNat, wrap64, Int.toNat_natCast, Nat.zero_add, List.take_length, List.drop_zero, and_self, setB_len, true_and, and_true]
                try dsimp only [go_sem, Nat.reduceAdd, Nat.reduceMul, Nat.reduceSub, Nat.reduceBEq, Nat.reduceLeDiff, Nat.reduceEqDiff, ↓dreduceIte, toG, tb155_75, tb155_85, tb155_125, conIn, conNode, conTime]
                try simp (disch := first | omega | (simp only [List.length_set, List.length_append, List.length_cons, List.length_nil, List.length_replicate]; omega)) only [guardP_T, guardP_pos, iteN, rd_set, List.set_set, List.length_set, eta_fact, eta_rumor, eta_doubt, eta_item, eta_rec, eta_due, look, look0, rd_toNat, wrap64, Int.toNat_natCast, Nat.zero_add, List.take_length, List.drop_zero, and_self, setB_len, true_and, and_true]
                with_reducible refine hR _ ?_)
           clear hR R)
        | (with_reducible refine kon_g_run ?_ ?_
           · dsimp only [nth] <;> with_reducible rfl)
        | (with_reducible refine kon_g_skip ?_ ?_
           · dsimp only [nth, not_t', not_f'] <;> with_reducible rfl
           dsimp only [go_sem])
        | (with_reducible refine kon_g_undef ?_ ?_
           · dsimp only [nth] <;> with_reducible rfl
           dsimp only [go_sem])
        | (with_reducible refine kon_g fun R hR => ?_
           dsimp only [go_sem, Nat.reduceAdd, Nat.reduceMul, Nat.reduceSub, Nat.reduceBEq, Nat.reduceLeDiff, Nat.reduceEqDiff, ↓dreduceIte, toG, tb155_75, tb155_85, tb155_125, conIn, conNode, conTime]
           split <;> (rename_i hb; with_reducible refine hR _ ?_; clear hR R; try simp only [hb]; try simp only [decide_eq_true_eq, decide_eq_false_iff_not, beq_iff_eq, beq_eq_false_iff_ne, bne_iff_ne, bne_eq_false_iff_eq, Bool.not_eq_true, Bool.not_eq_false, Bool.not_eq_eq_eq_not, Bool.not_true, Bool.not_false, ne_eq, Int.not_lt, Int.not_le, eq_self, not_true_eq_false, not_false_eq_true, decide_true, decide_false, Bool.and_eq_true, Bool.or_eq_true, Bool.and_eq_false_iff, Bool.or_eq_false_iff, gt_iff_lt, ge_iff_le, Bool.false_eq_true, Bool.true_eq_false, reduceCtorEq, or_false, false_or, or_true, true_or, false_and, and_false] at hb; try (exfalso; omega)))
        | (with_reducible refine kon_cond fun R1 R2 h1 h2 => ?_
           dsimp only [go_sem]
           first
             | (with_reducible refine h1 ?_; clear h1 h2 R1 R2)
             | (with_reducible refine h2 ?_; clear h1 h2 R1 R2)
             | ((split <;> rename_i hb <;> first
                 | (with_reducible refine h1 ?_; clear h1 h2 R1 R2; try simp only [hb])
                 | (with_reducible refine h2 ?_; clear h1 h2 R1 R2; try simp only [hb])) <;> (try simp only [decide_eq_true_eq, decide_eq_false_iff_not, beq_iff_eq, beq_eq_false_iff_ne, bne_iff_ne, bne_eq_false_iff_eq, Bool.not_eq_true, Bool.not_eq_false, Bool.not_eq_eq_eq_not, Bool.not_true, Bool.not_false, ne_eq, Int.not_lt, Int.not_le, eq_self, not_true_eq_false, not_false_eq_true, decide_true, decide_false, Bool.and_eq_true, Bool.or_eq_true, Bool.and_eq_false_iff, Bool.or_eq_false_iff, gt_iff_lt, ge_iff_le, Bool.false_eq_true, Bool.true_eq_false, reduceCtorEq, or_false, false_or, or_true, true_or, false_and, and_false] at hb; try (exfalso; omega))))
      all_goals first
        | (dsimp only [kon]
           with_reducible refine hQ _ _ _ ?_
           dsimp only [kon, endQ, af61, conRecOk, go_sem, Nat.reduceAdd, Nat.reduceMul, Nat.reduceSub, Nat.reduceBEq, Nat.reduceLeDiff, Nat.reduceEqDiff, ↓dreduceIte, toG, tb155_75, tb155_85, tb155_125, conIn, conNode, conTime]
           try simp (disch := first | omega | (simp only [List.length_set, List.length_append, List.length_cons, List.length_nil, List.length_replicate]; omega)) only [guardP_T, guardP_pos, iteN, rd_set, List.set_set, List.length_set, eta_fact, eta_rumor, eta_doubt, eta_item, eta_rec, eta_due, look, look0, rd_toNat, wrap64, Int.toNat_natCast, Nat.zero_add, List.take_length, List.drop_zero, and_self, setB_len, true_and, and_true]
           try dsimp only [go_sem, Nat.reduceAdd, Nat.reduceMul, Nat.reduceSub, Nat.reduceBEq, Nat.reduceLeDiff, Nat.reduceEqDiff, ↓dreduceIte, toG, tb155_75, tb155_85, tb155_125, conIn, conNode, conTime])
        | skip
      all_goals try first
        | omega
        | (simp; done)
        | (simp; omega)
      all_goals
        try simp only [Option.some.injEq, Prod.mk.injEq, and_true, AV.bool.injEq, List.cons.injEq]
        try simp_all [recOk, inr, factOk]
        try (rw [Bool.eq_iff_iff]; simp only [Bool.and_eq_true, Bool.or_eq_true, decide_eq_true_eq, beq_iff_eq])
        try omega
    · simp at h'

def tb63 : Tab := fun f => match f with
  | 77 => some conNode
  | 97 => some conTime
  | 139 => some conFact
  | _ => none

theorem tb63_77 : tb63 77 = some conNode := rfl
theorem tb63_97 : tb63 97 = some conTime := rfl
theorem tb63_139 : tb63 139 = some conFact := rfl

-- loop.example/g00678/impl.RecRight hows []
def af63 : AF := ⟨86, [.t 2],
  .seq (.reg [⟨some 1, .box (.t 0), none⟩,
    ⟨some 2, .mv (.b false), none⟩])
  (.seq (.seq (.reg [⟨some 3, .fa 0 (.t 1), none⟩,
    ⟨some 4, .ld false 1 (.t 3), none⟩,
    ⟨some 5, .call 97 [(.t 4)], none⟩,
    ⟨some 6, .un .not (.t 5), none⟩,
    ⟨some 7, .mv (.t 6), none⟩,
    ⟨some 8, .fa 1 (.t 1), some (7, false)⟩,
    ⟨some 9, .ld false 1 (.t 8), some (7, false)⟩,
    ⟨some 10, .call 77 [(.t 9)], some (7, false)⟩,
    ⟨some 11, .un .not (.t 10), some (7, false)⟩,
    ⟨some 12, .pick (.t 7) (.b true) (.t 11), none⟩])
  (.cond (.t 12)
    (.seq (.reg [⟨some 2, .mv (.b false), none⟩])
    (.ret))
    (.skip)))
  (.seq (.seq (.reg [⟨some 13, .fa 2 (.t 1), none⟩,
    ⟨some 14, .ld false 1 (.t 13), none⟩])
  (.block 0 (.seq (.reg [⟨some 16, .bin .eql (.t 14) (.i 1), none⟩,
      ⟨some 15, .mv (.t 16), none⟩])
    (.cond (.t 15)
      (.seq (.reg [⟨some 17, .fa 3 (.t 1), none⟩,
        ⟨some 18, .ld false 1 (.t 17), none⟩,
        ⟨some 19, .call 97 [(.t 18)], none⟩,
        ⟨some 20, .mv (.t 19), none⟩,
        ⟨some 21, .fa 4 (.t 1), some (20, true)⟩,
        ⟨some 22, .ld false 1 (.t 21), some (20, true)⟩,
        ⟨some 23, .bin .eql (.t 22) (.i 0), some (20, true)⟩,
        ⟨some 24, .pick (.t 20) (.t 23) (.b false), none⟩,
        ⟨some 25, .mv (.t 24), none⟩,
        ⟨some 26, .fa 5 (.t 1), some (25, true)⟩,
        ⟨some 27, .ld false 1 (.t 26), some (25, true)⟩,
        ⟨some 28, .bin .eql (.t 27) (.i 0), some (25, true)⟩,
        ⟨some 29, .pick (.t 25) (.t 28) (.b false), none⟩,
        ⟨some 2, .mv (.t 29), none⟩])
      (.ret))
      (.seq (.reg [⟨some 31, .bin .eql (.t 14) (.i 2), none⟩,
        ⟨some 30, .mv (.t 31), none⟩])
      (.cond (.t 30)
        (.seq (.reg [⟨some 32, .fa 3 (.t 1), none⟩,
          ⟨some 33, .ld false 1 (.t 32), none⟩,
          ⟨some 34, .bin .eql (.t 33) (.i 0), none⟩,
          ⟨some 35, .mv (.t 34), none⟩,
          ⟨some 36, .fa 4 (.t 1), some (35, true)⟩,
          ⟨some 37, .ld false 1 (.t 36), some (35, true)⟩,
          ⟨some 38, .bin .eql (.t 37) (.i 0), some (35, true)⟩,
          ⟨some 39, .pick (.t 35) (.t 38) (.b false), none⟩,
          ⟨some 40, .mv (.t 39), none⟩,
          ⟨some 41, .fa 5 (.t 1), some (40, true)⟩,
          ⟨some 42, .ld false 1 (.t 41), some (40, true)⟩,
          ⟨some 43, .bin .eql (.t 42) (.i 0), some (40, true)⟩,
          ⟨some 44, .pick (.t 40) (.t 43) (.b false), none⟩,
          ⟨some 2, .mv (.t 44), none⟩])
        (.ret))
        (.seq (.seq (.reg [⟨some 46, .bin .eql (.t 14) (.i 3), none⟩,
          ⟨some 45, .mv (.t 46), none⟩])
        (.cond (.t 45)
          (.skip)
          (.reg [⟨some 47, .bin .eql (.t 14) (.i 4), none⟩,
            ⟨some 45, .mv (.t 47), none⟩])))
        (.cond (.t 45)
          (.seq (.reg [⟨some 48, .fa 3 (.t 1), none⟩,
            ⟨some 49, .ld false 1 (.t 48), none⟩,
            ⟨some 50, .call 97 [(.t 49)], none⟩,
            ⟨some 51, .mv (.t 50), none⟩,
            ⟨some 52, .fa 4 (.t 1), some (51, true)⟩,
            ⟨some 53, .ld false 1 (.t 52), some (51, true)⟩,
            ⟨some 54, .call 77 [(.t 53)], some (51, true)⟩,
            ⟨some 55, .pick (.t 51) (.t 54) (.b false), none⟩,
            ⟨some 56, .mv (.t 55), none⟩,
            ⟨some 57, .fa 5 (.t 1), some (56, true)⟩,
            ⟨some 58, .ld false 1 (.t 57), some (56, true)⟩,
            ⟨some 59, .bin .eql (.t 58) (.i 0), some (56, true)⟩,
            ⟨some 60, .pick (.t 56) (.t 59) (.b false), none⟩,
            ⟨some 2, .mv (.t 60), none⟩])
          (.ret))
          (.seq (.reg [⟨some 62, .bin .eql (.t 14) (.i 5), none⟩,
            ⟨some 61, .mv (.t 62), none⟩])
          (.cond (.t 61)
            (.seq (.reg [⟨some 63, .fa 3 (.t 1), none⟩,
              ⟨some 64, .ld false 1 (.t 63), none⟩,
              ⟨some 65, .fa 4 (.t 1), none⟩,
              ⟨some 66, .ld false 1 (.t 65), none⟩,
              ⟨some 67, .fa 5 (.t 1), none⟩,
              ⟨some 68, .ld false 1 (.t 67), none⟩,
              ⟨some 69, .build [.int .i64 0, .int .i64 0, .int .i64 0] [(0, 1, (.t 64)), (1, 1, (.t 66)), (2, 1, (.t 68))], none⟩,
              ⟨some 70, .call 139 [(.t 69)], none⟩,
              ⟨some 2, .mv (.t 70), none⟩])
            (.ret))
            (.seq (.reg [⟨some 72, .bin .eql (.t 14) (.i 6), none⟩,
              ⟨some 71, .mv (.t 72), none⟩])
            (.cond (.t 71)
              (.seq (.reg [⟨some 73, .fa 3 (.t 1), none⟩,
                ⟨some 74, .ld false 1 (.t 73), none⟩,
                ⟨some 75, .call 77 [(.t 74)], none⟩,
                ⟨some 76, .mv (.t 75), none⟩,
                ⟨some 77, .fa 4 (.t 1), some (76, true)⟩,
                ⟨some 78, .ld false 1 (.t 77), some (76, true)⟩,
                ⟨some 79, .bin .eql (.t 78) (.i 0), some (76, true)⟩,
                ⟨some 80, .pick (.t 76) (.t 79) (.b false), none⟩,
                ⟨some 81, .mv (.t 80), none⟩,
                ⟨some 82, .fa 5 (.t 1), some (81, true)⟩,
                ⟨some 83, .ld false 1 (.t 82), some (81, true)⟩,
                ⟨some 84, .bin .eql (.t 83) (.i 0), some (81, true)⟩,
                ⟨some 85, .pick (.t 81) (.t 84) (.b false), none⟩,
                ⟨some 2, .mv (.t 85), none⟩])
              (.ret))
              (.skip)))))))))))))
  (.seq (.reg [⟨some 2, .mv (.b false), none⟩])
  (.ret))))⟩

set_option maxHeartbeats 4000000 in
theorem does63 (as : List AV) (hok : ok 64 as) : Does tb63 af63 conRecOk as := by
  cases h : (conRecOk).run as with
  | none => exact does_none h
  | some out =>
    have h' := h
    simp only [conRecOk] at h'
    split at h'
    · rename_i a b c d e f
      simp only [Option.some.injEq] at h'
      subst h'
      have hmo : (most : Int) = 1099511627776 := rfl
      have hml : (maxLen : Int) = 9223372036854775807 := rfl
      with_reducible refine does_by h fun Q hQ => ?_
      clear h
      dsimp only [af63, conRecOk, go_sem, Nat.reduceAdd, Nat.reduceMul, Nat.reduceSub, Nat.reduceBEq, Nat.reduceLeDiff, Nat.reduceEqDiff, ↓dreduceIte, toG, tb63_77, tb63_97, tb63_139, conFact, conNode, conTime]
      repeat' first
        | with_reducible refine kon_seq ?_
        | with_reducible refine kon_nil ?_
        | with_reducible refine kon_any ?_ ?_
        | with_reducible exact kon_any_nil
        | with_reducible refine kon_skip ?_
        | with_reducible refine kon_block ?_
        | with_reducible refine kon_ret ?_
        | with_reducible refine kon_exit ?_
        | with_reducible refine kon_past_ret ?_
        | with_reducible refine kon_past_exit ?_
        | with_reducible refine kon_blk_ret ?_
        | with_reducible refine kon_blk_end ?_
        | with_reducible refine kon_blk_exit ?_
        | (with_reducible refine kon_blk_past ?_ ?_
           · decide)
        | with_reducible refine loop_exit ?_
        | with_reducible refine loop_ret ?_
        | with_reducible refine mid_exit ?_
        | with_reducible refine mid_ret ?_
        | ((first | with_reducible refine kon_bin fun R hR => ?_ | with_reducible refine kon_conv fun R hR => ?_)
           dsimp only [go_sem, Nat.reduceAdd, Nat.reduceMul, Nat.reduceSub, Nat.reduceBEq, Nat.reduceLeDiff, Nat.reduceEqDiff, ↓dreduceIte, toG, tb63_77, tb63_97, tb63_139, conFact, conNode, conTime]
           try simp (disch := first | omega | (simp only [List.length_set, List.length_append, List.length_cons, List.length_nil, List.length_replicate]; omega)) only [guardP_T, guardP_pos, iteN, rd_set, List.set_set, List.length_set, eta_fact, eta_rumor, eta_doubt, eta_item, eta_rec, eta_due, look, look0, rd_toNat, wrap64, Int.toNat_natCast, Nat.zero_add, List.take_length, List.drop_zero, and_self, setB_len, true_and, and_true]
           with_reducible refine hR _ ?_
           clear hR R)
        | (with_reducible refine kon_ins fun R hR => ?_
           dsimp only [go_sem, Nat.reduceAdd, Nat.reduceMul, Nat.reduceSub, Nat.reduceBEq, Nat.reduceLeDiff, Nat.reduceEqDiff, ↓dreduceIte, toG, tb63_77, tb63_97, tb63_139, conFact, conNode, conTime]
           first
             | with_reducible refine hR _ ?_
             | (simp (disch := first | omega | (simp only [List.length_set, List.length_append, List.length_cons, List.length_nil, List.length_replicate]; omega)) only [guardP_T, guardP_pos, iteN, rd_set, List.set_set, List.length_set, eta_fact, eta_rumor, eta_doubt, eta_item, eta_rec, eta_due, look, look0, rd_toNat, wrap64, Int.toNat_natCast, Nat.zero_add, List.take_length, List.drop_zero, and_self, setB_len, true_and, and_true]
                try dsimp only [go_sem, Nat.reduceAdd, Nat.reduceMul, Nat.reduceSub, Nat.reduceBEq, Nat.reduceLeDiff, Nat.reduceEqDiff, ↓dreduceIte, toG, tb63_77, tb63_97, tb63_139, conFact, conNode, conTime]
                try simp (disch := first | omega | (simp only [List.length_set, List.length_append, List.length_cons, List.length_nil, List.length_replicate]; omega)) only [guardP_T, guardP_pos, iteN, rd_set, List.set_set, List.length_set, eta_fact, eta_rumor, eta_doubt, eta_item, eta_rec, eta_due, look, look0, rd_toNat, wrap64, Int.toNat_natCast, Nat.zero_add, List.take_length, List.drop_zero, and_self, setB_len, true_and, and_true]
                with_reducible refine hR _ ?_)
           clear hR R)
        | (with_reducible refine kon_g_run ?_ ?_
           · dsimp only [nth] <;> with_reducible rfl)
        | (with_reducible refine kon_g_skip ?_ ?_
           · dsimp only [nth, not_t', not_f'] <;> with_reducible rfl
           dsimp only [go_sem])
        | (with_reducible refine kon_g_undef ?_ ?_
           · dsimp only [nth] <;> with_reducible rfl
           dsimp only [go_sem])
        | (with_reducible refine kon_g fun R hR => ?_
           dsimp only [go_sem, Nat.reduceAdd, Nat.reduceMul, Nat.reduceSub, Nat.reduceBEq, Nat.reduceLeDiff, Nat.reduceEqDiff, ↓dreduceIte, toG, tb63_77, tb63_97, tb63_139, conFact, conNode, conTime]
           split <;> (rename_i hb; with_reducible refine hR _ ?_; clear hR R; try simp only [hb]; try simp only [decide_eq_true_eq, decide_eq_false_iff_not, beq_iff_eq, beq_eq_false_iff_ne, bne_iff_ne, bne_eq_false_iff_eq, Bool.not_eq_true, Bool.not_eq_false, Bool.not_eq_eq_eq_not, Bool.not_true, Bool.not_false, ne_eq, Int.not_lt, Int.not_le, eq_self, not_true_eq_false, not_false_eq_true, decide_true, decide_false, Bool.and_eq_true, Bool.or_eq_true, Bool.and_eq_false_iff, Bool.or_eq_false_iff, gt_iff_lt, ge_iff_le, Bool.false_eq_true, Bool.true_eq_false, reduceCtorEq, or_false, false_or, or_true, true_or, false_and, and_false] at hb; try (exfalso; omega)))
        | (with_reducible refine kon_cond fun R1 R2 h1 h2 => ?_
           dsimp only [go_sem]
           first
             | (with_reducible refine h1 ?_; clear h1 h2 R1 R2)
             | (with_reducible refine h2 ?_; clear h1 h2 R1 R2)
             | ((split <;> rename_i hb <;> first
                 | (with_reducible refine h1 ?_; clear h1 h2 R1 R2; try simp only [hb])
                 | (with_reducible refine h2 ?_; clear h1 h2 R1 R2; try simp only [hb])) <;> (try simp only [decide_eq_true_eq, decide_eq_false_iff_not, beq_iff_eq, beq_eq_false_iff_ne, bne_iff_ne, bne_eq_false_iff_eq, Bool.not_eq_true, Bool.not_eq_false, Bool.not_eq_eq_eq_not, Bool.not_true, Bool.not_false, ne_eq, Int.not_lt, Int.not_le, eq_self, not_true_eq_false, not_false_eq_true, decide_true, decide_false, Bool.and_eq_true, Bool.or_eq_true, Bool.and_eq_false_iff, Bool.or_eq_false_iff, gt_iff_lt, ge_iff_le, Bool.false_eq_true, Bool.true_eq_false, reduceCtorEq, or_false, false_or, or_true, true_or, false_and, and_false] at hb; try (exfalso; omega))))
      all_goals first
        | (dsimp only [kon]
           with_reducible refine hQ _ _ _ ?_
           dsimp only [kon, endQ, af63, conRecOk, go_sem, Nat.reduceAdd, Nat.reduceMul, Nat.reduceSub, Nat.reduceBEq, Nat.reduceLeDiff, Nat.reduceEqDiff, ↓dreduceIte, toG, tb63_77, tb63_97, tb63_139, conFact, conNode, conTime]
           try simp (disch := first | omega | (simp only [List.length_set, List.length_append, List.length_cons, List.length_nil, List.length_replicate]; omega)) only [guardP_T, guardP_pos, iteN, rd_set, List.set_set, List.length_set, eta_fact, eta_rumor, eta_doubt, eta_item, eta_rec, eta_due, look, look0, rd_toNat, wrap64, Int.toNat_natCast, Nat.zero_add, List.take_length, List.drop_zero, and_self, setB_len, true_and, and_true]
           try dsimp only [go_sem, Nat.reduceAdd, Nat.reduceMul, Nat.reduceSub, Nat.reduceBEq, Nat.reduceLeDiff, Nat.reduceEqDiff, ↓dreduceIte, toG, tb63_77, tb63_97, tb63_139, conFact, conNode, conTime])
        | skip
      all_goals try first
        | omega
        | (simp; done)
        | (simp; omega)
      all_goals
        try simp only [Option.some.injEq, Prod.mk.injEq, and_true, AV.bool.injEq, List.cons.injEq]
        try simp_all [recOk, inr, factOk]
        try (rw [Bool.eq_iff_iff]; simp only [Bool.and_eq_true, Bool.or_eq_true, decide_eq_true_eq, beq_iff_eq])
        try omega
    · simp at h'

end Go.Proofs.Ytnghlmogcbmlfaa
