/- Records: function values over them. -/
import Derived.Test.YtnghlmogcbmlfaaRecsA
namespace Go.Proofs.Ytnghlmogcbmlfaa
set_option linter.unusedVariables false
set_option linter.unusedSimpArgs false
set_option linter.unnecessarySimpa false

-- loop.example/g00678/impl.isLife hows []
def af215 : AF := ⟨11, [.t 2],
  .seq (.reg [⟨some 1, .box (.t 0), none⟩,
    ⟨some 2, .mv (.b false), none⟩])
  (.seq (.reg [⟨some 3, .fa 2 (.t 1), none⟩,
    ⟨some 4, .ld false 1 (.t 3), none⟩,
    ⟨some 5, .bin .eql (.t 4) (.i 1), none⟩,
    ⟨some 6, .mv (.t 5), none⟩,
    ⟨some 7, .fa 2 (.t 1), some (6, false)⟩,
    ⟨some 8, .ld false 1 (.t 7), some (6, false)⟩,
    ⟨some 9, .bin .eql (.t 8) (.i 2), some (6, false)⟩,
    ⟨some 10, .pick (.t 6) (.b true) (.t 9), none⟩,
    ⟨some 2, .mv (.t 10), none⟩])
  (.ret))⟩

set_option maxHeartbeats 4000000 in
theorem does215 (as : List AV) (hok : ok 64 as) : Does tbNone af215 conIsLife as := by
  cases h : (conIsLife).run as with
  | none => exact does_none h
  | some out =>
    have h' := h
    simp only [conIsLife] at h'
    split at h'
    · rename_i a b c d e f
      simp only [Option.some.injEq] at h'
      subst h'
      have hmo : (most : Int) = 1099511627776 := rfl
      have hml : (maxLen : Int) = 9223372036854775807 := rfl
      with_reducible refine does_by h fun Q hQ => ?_
      clear h
      dsimp only [af215, conIsLife, go_sem, Nat.reduceAdd, Nat.reduceMul, Nat.reduceSub, Nat.reduceBEq, Nat.reduceLeDiff, Nat.reduceEqDiff, ↓dreduceIte, toG]
      repeat' first
        | with_reducible refine kon_seq ?_
        | with_reducible refine kon_nil ?_
        | with_reducible refine kon_any ?_ ?_
        | with_reducible exact kon_any_nil
        | with_reducible refine kon_skip ?_
        | with_reducible refine kon_block ?_
        | with_reducible refine kon_ret ?_
        | with_reducible refine kon_exit ?_
        | with_reducible refine kon_past_ret ?_
        | with_reducible refine kon_past_exit ?_
        | with_reducible refine kon_blk_ret ?_
        | with_reducible refine kon_blk_end ?_
        | with_reducible refine kon_blk_exit ?_
        | (with_reducible refine kon_blk_past ?_ ?_
           · decide)
        | with_reducible refine loop_exit ?_
        | with_reducible refine loop_ret ?_
        | with_reducible refine mid_exit ?_
        | with_reducible refine mid_ret ?_
        | ((first | with_reducible refine kon_bin fun R hR => ?_ | with_reducible refine kon_conv fun R hR => ?_)
           dsimp only [go_sem, Nat.reduceAdd, Nat.reduceMul, Nat.reduceSub, Nat.reduceBEq, Nat.reduceLeDiff, Nat.reduceEqDiff, ↓dreduceIte, toG]
           try simp (disch := first | omega | (simp only [List.length_set, List.length_append, List.length_cons, List.length_nil, List.length_replicate]; omega)) only [guardP_T, guardP_pos, iteN, rd_set, List.set_set, List.length_set, eta_fact, eta_rumor, eta_doubt, eta_item, eta_rec, eta_due, look, look0, rd_toNat, wrap64, Int.toNat_natCast, Nat.zero_add, List.take_length, List.drop_zero, and_self, setB_len, true_and, and_true]
           with_reducible refine hR _ ?_
           clear hR R)
        | (with_reducible refine kon_ins fun R hR => ?_
           dsimp only [go_sem, Nat.reduceAdd, Nat.reduceMul, Nat.reduceSub, Nat.reduceBEq, Nat.reduceLeDiff, Nat.reduceEqDiff, ↓dreduceIte, toG]
           first
             | with_reducible refine hR _ ?_
             | (simp (disch := first | omega | (simp only [List.length_set, List.length_append, List.length_cons, List.length_nil, List.length_replicate]; omega)) only [guardP_T, guardP_pos, iteN, rd_set, List.set_set, List.length_set, eta_fact, eta_rumor, eta_doubt, eta_item, eta_rec, eta_due, look, look0, rd_toNat, wrap64, Int.toNat_natCast, Nat.zero_add, List.take_length, List.drop_zero, and_self, setB_len, true_and, and_true]
                try dsimp only [go_sem, Nat.reduceAdd, Nat.reduceMul, Nat.reduceSub, Nat.reduceBEq, Nat.reduceLeDiff, Nat.reduceEqDiff, ↓dreduceIte, toG]
                try simp (disch := first | omega | (simp only [List.length_set, List.length_append, List.length_cons, List.length_nil, List.length_replicate]; omega)) only [guardP_T, guardP_pos, iteN, rd_set, List.set_set, List.length_set, eta_fact, eta_rumor, eta_doubt, eta_item, eta_rec, eta_due, look, look0, rd_toNat, wrap64, Int.toNat_natCast, Nat.zero_add, List.take_length, List.drop_zero, and_self, setB_len, true_and, and_true]
                with_reducible refine hR _ ?_)
           clear hR R)
        | (with_reducible refine kon_g_run ?_ ?_
           · dsimp only [nth] <;> with_reducible rfl)
        | (with_reducible refine kon_g_skip ?_ ?_
           · dsimp only [nth, not_t', not_f'] <;> with_reducible rfl
           dsimp only [go_sem])
        | (with_reducible refine kon_g_undef ?_ ?_
           · dsimp only [nth] <;> with_reducible rfl
           dsimp only [go_sem])
        | (with_reducible refine kon_g fun R hR => ?_
           dsimp only [go_sem, Nat.reduceAdd, Nat.reduceMul, Nat.reduceSub, Nat.reduceBEq, Nat.reduceLeDiff, Nat.reduceEqDiff, ↓dreduceIte, toG]
           split <;> (rename_i hb; with_reducible refine hR _ ?_; clear hR R; try simp only [hb]; try simp only [decide_eq_true_eq, decide_eq_false_iff_not, beq_iff_eq, beq_eq_false_iff_ne, bne_iff_ne, bne_eq_false_iff_eq, Bool.not_eq_true, Bool.not_eq_false, Bool.not_eq_eq_eq_not, Bool.not_true, Bool.not_false, ne_eq, Int.not_lt, Int.not_le, eq_self, not_true_eq_false, not_false_eq_true, decide_true, decide_false, Bool.and_eq_true, Bool.or_eq_true, Bool.and_eq_false_iff, Bool.or_eq_false_iff, gt_iff_lt, ge_iff_le, Bool.false_eq_true, Bool.true_eq_false, reduceCtorEq, or_false, false_or, or_true, true_or, false_and, and_false] at hb; try (exfalso; omega)))
        | (with_reducible refine kon_cond fun R1 R2 h1 h2 => ?_
           dsimp only [go_sem]
           first
             | (with_reducible refine h1 ?_; clear h1 h2 R1 R2)
             | (with_reducible refine h2 ?_; clear h1 h2 R1 R2)
             | ((split <;> rename_i hb <;> first
                 | (with_reducible refine h1 ?_; clear h1 h2 R1 R2; try simp only [hb])
                 | (with_reducible refine h2 ?_; clear h1 h2 R1 R2; try simp only [hb])) <;> (try simp only [decide_eq_true_eq, decide_eq_false_iff_not, beq_iff_eq, beq_eq_false_iff_ne, bne_iff_ne, bne_eq_false_iff_eq, Bool.not_eq_true, Bool.not_eq_false, Bool.not_eq_eq_eq_not, Bool.not_true, Bool.not_false, ne_eq, Int.not_lt, Int.not_le, eq_self, not_true_eq_false, not_false_eq_true, decide_true, decide_false, Bool.and_eq_true, Bool.or_eq_true, Bool.and_eq_false_iff, Bool.or_eq_false_iff, gt_iff_lt, ge_iff_le, Bool.false_eq_true, Bool.true_eq_false, reduceCtorEq, or_false, false_or, or_true, true_or, false_and, and_false] at hb; try (exfalso; omega))))
      all_goals first
        | (dsimp only [kon]
           with_reducible refine hQ _ _ _ ?_
           dsimp only [kon, endQ, af215, conIsLife, go_sem, Nat.reduceAdd, Nat.reduceMul, Nat.reduceSub, Nat.reduceBEq, Nat.reduceLeDiff, Nat.reduceEqDiff, ↓dreduceIte, toG]
           try simp (disch := first | omega | (simp only [List.length_set, List.length_append, List.length_cons, List.length_nil, List.length_replicate]; omega)) only [guardP_T, guardP_pos, iteN, rd_set, List.set_set, List.length_set, eta_fact, eta_rumor, eta_doubt, eta_item, eta_rec, eta_due, look, look0, rd_toNat, wrap64, Int.toNat_natCast, Nat.zero_add, List.take_length, List.drop_zero, and_self, setB_len, true_and, and_true]
           try dsimp only [go_sem, Nat.reduceAdd, Nat.reduceMul, Nat.reduceSub, Nat.reduceBEq, Nat.reduceLeDiff, Nat.reduceEqDiff, ↓dreduceIte, toG])
        | skip
      all_goals try first
        | omega
        | (simp; done)
        | (simp; omega)
      all_goals (simp_all [isLife])
    · simp at h'

def conCl143 : Con := ⟨[.v], .v, fun as => match as with
  | [.agg [.int .i64 a, .int .i64 b, .int .i64 c, .int .i64 d, .int .i64 e, .int .i64 f]] => some (.bool (notOk (⟨a, b, c, d, e, f⟩ : Rec)), [])
  | _ => none⟩

def tb143 : Tab := fun f => match f with
  | 63 => some conRecOk
  | _ => none

theorem tb143_63 : tb143 63 = some conRecOk := rfl

-- loop.example/g00678/impl.areRecs$1 hows []
def af143 : AF := ⟨6, [.t 2],
  .seq (.reg [⟨some 1, .box (.t 0), none⟩,
    ⟨some 2, .mv (.b false), none⟩])
  (.seq (.reg [⟨some 3, .ld true 6 (.t 1), none⟩,
    ⟨some 4, .call 63 [(.t 3)], none⟩,
    ⟨some 5, .un .not (.t 4), none⟩,
    ⟨some 2, .mv (.t 5), none⟩])
  (.ret))⟩

set_option maxHeartbeats 4000000 in
theorem does143 (as : List AV) (hok : ok 64 as) : Does tb143 af143 conCl143 as := by
  cases h : (conCl143).run as with
  | none => exact does_none h
  | some out =>
    have h' := h
    simp only [conCl143] at h'
    split at h'
    · rename_i a b c d e f
      simp only [Option.some.injEq] at h'
      subst h'
      have hmo : (most : Int) = 1099511627776 := rfl
      have hml : (maxLen : Int) = 9223372036854775807 := rfl
      with_reducible refine does_by h fun Q hQ => ?_
      clear h
      dsimp only [af143, conCl143, go_sem, Nat.reduceAdd, Nat.reduceMul, Nat.reduceSub, Nat.reduceBEq, Nat.reduceLeDiff, Nat.reduceEqDiff, ↓dreduceIte, toG, tb143_63, conRecOk]
      repeat' first
        | with_reducible refine kon_seq ?_
        | with_reducible refine kon_nil ?_
        | with_reducible refine kon_any ?_ ?_
        | with_reducible exact kon_any_nil
        | with_reducible refine kon_skip ?_
        | with_reducible refine kon_block ?_
        | with_reducible refine kon_ret ?_
        | with_reducible refine kon_exit ?_
        | with_reducible refine kon_past_ret ?_
        | with_reducible refine kon_past_exit ?_
        | with_reducible refine kon_blk_ret ?_
        | with_reducible refine kon_blk_end ?_
        | with_reducible refine kon_blk_exit ?_
        | (with_reducible refine kon_blk_past ?_ ?_
           · decide)
        | with_reducible refine loop_exit ?_
        | with_reducible refine loop_ret ?_
        | with_reducible refine mid_exit ?_
        | with_reducible refine mid_ret ?_
        | ((first | with_reducible refine kon_bin fun R hR => ?_ | with_reducible refine kon_conv fun R hR => ?_)
           dsimp only [go_sem, Nat.reduceAdd, Nat.reduceMul, Nat.reduceSub, Nat.reduceBEq, Nat.reduceLeDiff, Nat.reduceEqDiff, ↓dreduceIte, toG, tb143_63, conRecOk]
           try simp (disch := first | omega | (simp only [List.length_set, List.length_append, List.length_cons, List.length_nil, List.length_replicate]; omega)) only [guardP_T, guardP_pos, iteN, rd_set, List.set_set, List.length_set, eta_fact, eta_rumor, eta_doubt, eta_item, eta_rec, eta_due, look, look0, rd_toNat, wrap64, Int.toNat_natCast, Nat.zero_add, List.take_length, List.drop_zero, and_self, setB_len, true_and, and_true]
           with_reducible refine hR _ ?_
           clear hR R)
        | (with_reducible refine kon_ins fun R hR => ?_
           dsimp only [go_sem, Nat.reduceAdd, Nat.reduceMul, Nat.reduceSub, Nat.reduceBEq, Nat.reduceLeDiff, Nat.reduceEqDiff, ↓dreduceIte, toG, tb143_63, conRecOk]
           first
             | with_reducible refine hR _ ?_
             | (simp (disch := first | omega | (simp only [List.length_set, List.length_append, List.length_cons, List.length_nil, List.length_replicate]; omega)) only [guardP_T, guardP_pos, iteN, rd_set, List.set_set, List.length_set, eta_fact, eta_rumor, eta_doubt, eta_item, eta_rec, eta_due, look, look0, rd_toNat, wrap64, Int.toNat_natCast, Nat.zero_add, List.take_length, List.drop_zero, and_self, setB_len, true_and, and_true]
                try dsimp only [go_sem, Nat.reduceAdd, Nat.reduceMul, Nat.reduceSub, Nat.reduceBEq, Nat.reduceLeDiff, Nat.reduceEqDiff, ↓dreduceIte, toG, tb143_63, conRecOk]
                try simp (disch := first | omega | (simp only [List.length_set, List.length_append, List.length_cons, List.length_nil, List.length_replicate]; omega)) only [guardP_T, guardP_pos, iteN, rd_set, List.set_set, List.length_set, eta_fact, eta_rumor, eta_doubt, eta_item, eta_rec, eta_due, look, look0, rd_toNat, wrap64, Int.toNat_natCast, Nat.zero_add, List.take_length, List.drop_zero, and_self, setB_len, true_and, and_true]
                with_reducible refine hR _ ?_)
           clear hR R)
        | (with_reducible refine kon_g_run ?_ ?_
           · dsimp only [nth] <;> with_reducible rfl)
        | (with_reducible refine kon_g_skip ?_ ?_
           · dsimp only [nth, not_t', not_f'] <;> with_reducible rfl
           dsimp only [go_sem])
        | (with_reducible refine kon_g_undef ?_ ?_
           · dsimp only [nth] <;> with_reducible rfl
           dsimp only [go_sem])
        | (with_reducible refine kon_g fun R hR => ?_
           dsimp only [go_sem, Nat.reduceAdd, Nat.reduceMul, Nat.reduceSub, Nat.reduceBEq, Nat.reduceLeDiff, Nat.reduceEqDiff, ↓dreduceIte, toG, tb143_63, conRecOk]
           split <;> (rename_i hb; with_reducible refine hR _ ?_; clear hR R; try simp only [hb]; try simp only [decide_eq_true_eq, decide_eq_false_iff_not, beq_iff_eq, beq_eq_false_iff_ne, bne_iff_ne, bne_eq_false_iff_eq, Bool.not_eq_true, Bool.not_eq_false, Bool.not_eq_eq_eq_not, Bool.not_true, Bool.not_false, ne_eq, Int.not_lt, Int.not_le, eq_self, not_true_eq_false, not_false_eq_true, decide_true, decide_false, Bool.and_eq_true, Bool.or_eq_true, Bool.and_eq_false_iff, Bool.or_eq_false_iff, gt_iff_lt, ge_iff_le, Bool.false_eq_true, Bool.true_eq_false, reduceCtorEq, or_false, false_or, or_true, true_or, false_and, and_false] at hb; try (exfalso; omega)))
        | (with_reducible refine kon_cond fun R1 R2 h1 h2 => ?_
           dsimp only [go_sem]
           first
             | (with_reducible refine h1 ?_; clear h1 h2 R1 R2)
             | (with_reducible refine h2 ?_; clear h1 h2 R1 R2)
             | ((split <;> rename_i hb <;> first
                 | (with_reducible refine h1 ?_; clear h1 h2 R1 R2; try simp only [hb])
                 | (with_reducible refine h2 ?_; clear h1 h2 R1 R2; try simp only [hb])) <;> (try simp only [decide_eq_true_eq, decide_eq_false_iff_not, beq_iff_eq, beq_eq_false_iff_ne, bne_iff_ne, bne_eq_false_iff_eq, Bool.not_eq_true, Bool.not_eq_false, Bool.not_eq_eq_eq_not, Bool.not_true, Bool.not_false, ne_eq, Int.not_lt, Int.not_le, eq_self, not_true_eq_false, not_false_eq_true, decide_true, decide_false, Bool.and_eq_true, Bool.or_eq_true, Bool.and_eq_false_iff, Bool.or_eq_false_iff, gt_iff_lt, ge_iff_le, Bool.false_eq_true, Bool.true_eq_false, reduceCtorEq, or_false, false_or, or_true, true_or, false_and, and_false] at hb; try (exfalso; omega))))
      all_goals first
        | (dsimp only [kon]
           with_reducible refine hQ _ _ _ ?_
           dsimp only [kon, endQ, af143, conCl143, go_sem, Nat.reduceAdd, Nat.reduceMul, Nat.reduceSub, Nat.reduceBEq, Nat.reduceLeDiff, Nat.reduceEqDiff, ↓dreduceIte, toG, tb143_63, conRecOk]
           try simp (disch := first | omega | (simp only [List.length_set, List.length_append, List.length_cons, List.length_nil, List.length_replicate]; omega)) only [guardP_T, guardP_pos, iteN, rd_set, List.set_set, List.length_set, eta_fact, eta_rumor, eta_doubt, eta_item, eta_rec, eta_due, look, look0, rd_toNat, wrap64, Int.toNat_natCast, Nat.zero_add, List.take_length, List.drop_zero, and_self, setB_len, true_and, and_true]
           try dsimp only [go_sem, Nat.reduceAdd, Nat.reduceMul, Nat.reduceSub, Nat.reduceBEq, Nat.reduceLeDiff, Nat.reduceEqDiff, ↓dreduceIte, toG, tb143_63, conRecOk])
        | skip
      all_goals try first
        | omega
        | (simp; done)
        | (simp; omega)
      all_goals (simp_all [notOk, gotP, lifeP, nodeP, sentP, isLife])
    · simp at h'

def conCl214 : Con := ⟨[.v, .v], .v, fun as => match as with
  | [.agg [.int .i64 a, .int .i64 b, .int .i64 c, .int .i64 d, .int .i64 e, .int .i64 f], .ip [.int .i64 x] 0] => some (.bool (lifeP x (⟨a, b, c, d, e, f⟩ : Rec)), [])
  | _ => none⟩

def tb214 : Tab := fun f => match f with
  | 215 => some conIsLife
  | _ => none

theorem tb214_215 : tb214 215 = some conIsLife := rfl

-- loop.example/g00678/impl.lifeOf$1 hows []
def af214 : AF := ⟨12, [.t 3],
  .seq (.reg [⟨some 2, .box (.t 0), none⟩,
    ⟨some 3, .mv (.b false), none⟩])
  (.seq (.reg [⟨some 4, .fa 1 (.t 2), none⟩,
    ⟨some 5, .ld false 1 (.t 4), none⟩,
    ⟨some 6, .ld false 1 (.t 1), none⟩,
    ⟨some 7, .bin .eql (.t 5) (.t 6), none⟩,
    ⟨some 8, .mv (.t 7), none⟩,
    ⟨some 9, .ld true 6 (.t 2), some (8, true)⟩,
    ⟨some 10, .call 215 [(.t 9)], some (8, true)⟩,
    ⟨some 11, .pick (.t 8) (.t 10) (.b false), none⟩,
    ⟨some 3, .mv (.t 11), none⟩])
  (.ret))⟩

set_option maxHeartbeats 4000000 in
theorem does214 (as : List AV) (hok : ok 64 as) : Does tb214 af214 conCl214 as := by
  cases h : (conCl214).run as with
  | none => exact does_none h
  | some out =>
    have h' := h
    simp only [conCl214] at h'
    split at h'
    · rename_i a b c d e f x
      simp only [Option.some.injEq] at h'
      subst h'
      have hmo : (most : Int) = 1099511627776 := rfl
      have hml : (maxLen : Int) = 9223372036854775807 := rfl
      with_reducible refine does_by h fun Q hQ => ?_
      clear h
      dsimp only [af214, conCl214, go_sem, Nat.reduceAdd, Nat.reduceMul, Nat.reduceSub, Nat.reduceBEq, Nat.reduceLeDiff, Nat.reduceEqDiff, ↓dreduceIte, toG, tb214_215, conIsLife]
      repeat' first
        | with_reducible refine kon_seq ?_
        | with_reducible refine kon_nil ?_
        | with_reducible refine kon_any ?_ ?_
        | with_reducible exact kon_any_nil
        | with_reducible refine kon_skip ?_
        | with_reducible refine kon_block ?_
        | with_reducible refine kon_ret ?_
        | with_reducible refine kon_exit ?_
        | with_reducible refine kon_past_ret ?_
        | with_reducible refine kon_past_exit ?_
        | with_reducible refine kon_blk_ret ?_
        | with_reducible refine kon_blk_end ?_
        | with_reducible refine kon_blk_exit ?_
        | (with_reducible refine kon_blk_past ?_ ?_
           · decide)
        | with_reducible refine loop_exit ?_
        | with_reducible refine loop_ret ?_
        | with_reducible refine mid_exit ?_
        | with_reducible refine mid_ret ?_
        | ((first | with_reducible refine kon_bin fun R hR => ?_ | with_reducible refine kon_conv fun R hR => ?_)
           dsimp only [go_sem, Nat.reduceAdd, Nat.reduceMul, Nat.reduceSub, Nat.reduceBEq, Nat.reduceLeDiff, Nat.reduceEqDiff, ↓dreduceIte, toG, tb214_215, conIsLife]
           try simp (disch := first | omega | (simp only [List.length_set, List.length_append, List.length_cons, List.length_nil, List.length_replicate]; omega)) only [guardP_T, guardP_pos, iteN, rd_set, List.set_set, List.length_set, eta_fact, eta_rumor, eta_doubt, eta_item, eta_rec, eta_due, look, look0, rd_toNat, wrap64, Int.toNat_natCast, Nat.zero_add, List.take_length, List.drop_zero, and_self, setB_len, true_and, and_true]
           with_reducible refine hR _ ?_
           clear hR R)
        | (with_reducible refine kon_ins fun R hR => ?_
           dsimp only [go_sem, Nat.reduceAdd, Nat.reduceMul, Nat.reduceSub, Nat.reduceBEq, Nat.reduceLeDiff, Nat.reduceEqDiff, ↓dreduceIte, toG, tb214_215, conIsLife]
           first
             | with_reducible refine hR _ ?_
             | (simp (disch := first | omega | (simp only [List.length_set, List.length_append, List.length_cons, List.length_nil, List.length_replicate]; omega)) only [guardP_T, guardP_pos, iteN, rd_set, List.set_set, List.length_set, eta_fact, eta_rumor, eta_doubt, eta_item, eta_rec, eta_due, look, look0, rd_toNat, wrap64, Int.toNat_natCast, Nat.zero_add, List.take_length, List.drop_zero, and_self, setB_len, true_and, and_true]
                try dsimp only [go_sem, Nat.reduceAdd, Nat.reduceMul, Nat.reduceSub, Nat.reduceBEq, Nat.reduceLeDiff, Nat.reduceEqDiff, ↓dreduceIte, toG, tb214_215, conIsLife]
                try simp (disch := first | omega | (simp only [List.length_set, List.length_append, List.length_cons, List.length_nil, List.length_replicate]; omega)) only [guardP_T, guardP_pos, iteN, rd_set, List.set_set, List.length_set, eta_fact, eta_rumor, eta_doubt, eta_item, eta_rec, eta_due, look, look0, rd_toNat, wrap64, Int.toNat_natCast, Nat.zero_add, List.take_length, List.drop_zero, and_self, setB_len, true_and, and_true]
                with_reducible refine hR _ ?_)
           clear hR R)
        | (with_reducible refine kon_g_run ?_ ?_
           · dsimp only [nth] <;> with_reducible rfl)
        | (with_reducible refine kon_g_skip ?_ ?_
           · dsimp only [nth, not_t', not_f'] <;> with_reducible rfl
           dsimp only [go_sem])
        | (with_reducible refine kon_g_undef ?_ ?_
           · dsimp only [nth] <;> with_reducible rfl
           dsimp only [go_sem])
        | (with_reducible refine kon_g fun R hR => ?_
           dsimp only [go_sem, Nat.reduceAdd, Nat.reduceMul, Nat.reduceSub, Nat.reduceBEq, Nat.reduceLeDiff, Nat.reduceEqDiff, ↓dreduceIte, toG, tb214_215, conIsLife]
           split <;> (rename_i hb; with_reducible refine hR _ ?_; clear hR R; try simp only [hb]; try simp only [decide_eq_true_eq, decide_eq_false_iff_not, beq_iff_eq, beq_eq_false_iff_ne, bne_iff_ne, bne_eq_false_iff_eq, Bool.not_eq_true, Bool.not_eq_false, Bool.not_eq_eq_eq_not, Bool.not_true, Bool.not_false, ne_eq, Int.not_lt, Int.not_le, eq_self, not_true_eq_false, not_false_eq_true, decide_true, decide_false, Bool.and_eq_true, Bool.or_eq_true, Bool.and_eq_false_iff, Bool.or_eq_false_iff, gt_iff_lt, ge_iff_le, Bool.false_eq_true, Bool.true_eq_false, reduceCtorEq, or_false, false_or, or_true, true_or, false_and, and_false] at hb; try (exfalso; omega)))
        | (with_reducible refine kon_cond fun R1 R2 h1 h2 => ?_
           dsimp only [go_sem]
           first
             | (with_reducible refine h1 ?_; clear h1 h2 R1 R2)
             | (with_reducible refine h2 ?_; clear h1 h2 R1 R2)
             | ((split <;> rename_i hb <;> first
                 | (with_reducible refine h1 ?_; clear h1 h2 R1 R2; try simp only [hb])
                 | (with_reducible refine h2 ?_; clear h1 h2 R1 R2; try simp only [hb])) <;> (try simp only [decide_eq_true_eq, decide_eq_false_iff_not, beq_iff_eq, beq_eq_false_iff_ne, bne_iff_ne, bne_eq_false_iff_eq, Bool.not_eq_true, Bool.not_eq_false, Bool.not_eq_eq_eq_not, Bool.not_true, Bool.not_false, ne_eq, Int.not_lt, Int.not_le, eq_self, not_true_eq_false, not_false_eq_true, decide_true, decide_false, Bool.and_eq_true, Bool.or_eq_true, Bool.and_eq_false_iff, Bool.or_eq_false_iff, gt_iff_lt, ge_iff_le, Bool.false_eq_true, Bool.true_eq_false, reduceCtorEq, or_false, false_or, or_true, true_or, false_and, and_false] at hb; try (exfalso; omega))))
      all_goals first
        | (dsimp only [kon]
           with_reducible refine hQ _ _ _ ?_
           dsimp only [kon, endQ, af214, conCl214, go_sem, Nat.reduceAdd, Nat.reduceMul, Nat.reduceSub, Nat.reduceBEq, Nat.reduceLeDiff, Nat.reduceEqDiff, ↓dreduceIte, toG, tb214_215, conIsLife]
           try simp (disch := first | omega | (simp only [List.length_set, List.length_append, List.length_cons, List.length_nil, List.length_replicate]; omega)) only [guardP_T, guardP_pos, iteN, rd_set, List.set_set, List.length_set, eta_fact, eta_rumor, eta_doubt, eta_item, eta_rec, eta_due, look, look0, rd_toNat, wrap64, Int.toNat_natCast, Nat.zero_add, List.take_length, List.drop_zero, and_self, setB_len, true_and, and_true]
           try dsimp only [go_sem, Nat.reduceAdd, Nat.reduceMul, Nat.reduceSub, Nat.reduceBEq, Nat.reduceLeDiff, Nat.reduceEqDiff, ↓dreduceIte, toG, tb214_215, conIsLife])
        | skip
      all_goals try first
        | omega
        | (simp; done)
        | (simp; omega)
      all_goals (simp_all [notOk, gotP, lifeP, nodeP, sentP, isLife])
    · simp at h'

def conCl147 : Con := ⟨[.v, .v], .v, fun as => match as with
  | [.agg [.int .i64 a, .int .i64 b, .int .i64 c, .int .i64 d, .int .i64 e, .int .i64 f], .ip [.int .i64 xa, .int .i64 xb, .int .i64 xc, .int .i64 xd, .int .i64 xe, .int .i64 xf] 0] => some (.bool (nodeP xb (⟨a, b, c, d, e, f⟩ : Rec)), [])
  | _ => none⟩

-- loop.example/g00678/impl.directly$1 hows []
def af147 : AF := ⟨9, [.t 3],
  .seq (.reg [⟨some 2, .box (.t 0), none⟩,
    ⟨some 3, .mv (.b false), none⟩])
  (.seq (.reg [⟨some 4, .fa 1 (.t 2), none⟩,
    ⟨some 5, .ld false 1 (.t 4), none⟩,
    ⟨some 6, .fa 1 (.t 1), none⟩,
    ⟨some 7, .ld false 1 (.t 6), none⟩,
    ⟨some 8, .bin .eql (.t 5) (.t 7), none⟩,
    ⟨some 3, .mv (.t 8), none⟩])
  (.ret))⟩

set_option maxHeartbeats 4000000 in
theorem does147 (as : List AV) (hok : ok 64 as) : Does tbNone af147 conCl147 as := by
  cases h : (conCl147).run as with
  | none => exact does_none h
  | some out =>
    have h' := h
    simp only [conCl147] at h'
    split at h'
    · rename_i a b c d e f xa xb xc xd xe xf
      simp only [Option.some.injEq] at h'
      subst h'
      have hmo : (most : Int) = 1099511627776 := rfl
      have hml : (maxLen : Int) = 9223372036854775807 := rfl
      with_reducible refine does_by h fun Q hQ => ?_
      clear h
      dsimp only [af147, conCl147, go_sem, Nat.reduceAdd, Nat.reduceMul, Nat.reduceSub, Nat.reduceBEq, Nat.reduceLeDiff, Nat.reduceEqDiff, ↓dreduceIte, toG]
      repeat' first
        | with_reducible refine kon_seq ?_
        | with_reducible refine kon_nil ?_
        | with_reducible refine kon_any ?_ ?_
        | with_reducible exact kon_any_nil
        | with_reducible refine kon_skip ?_
        | with_reducible refine kon_block ?_
        | with_reducible refine kon_ret ?_
        | with_reducible refine kon_exit ?_
        | with_reducible refine kon_past_ret ?_
        | with_reducible refine kon_past_exit ?_
        | with_reducible refine kon_blk_ret ?_
        | with_reducible refine kon_blk_end ?_
        | with_reducible refine kon_blk_exit ?_
        | (with_reducible refine kon_blk_past ?_ ?_
           · decide)
        | with_reducible refine loop_exit ?_
        | with_reducible refine loop_ret ?_
        | with_reducible refine mid_exit ?_
        | with_reducible refine mid_ret ?_
        | ((first | with_reducible refine kon_bin fun R hR => ?_ | with_reducible refine kon_conv fun R hR => ?_)
           dsimp only [go_sem, Nat.reduceAdd, Nat.reduceMul, Nat.reduceSub, Nat.reduceBEq, Nat.reduceLeDiff, Nat.reduceEqDiff, ↓dreduceIte, toG]
           try simp (disch := first | omega | (simp only [List.length_set, List.length_append, List.length_cons, List.length_nil, List.length_replicate]; omega)) only [guardP_T, guardP_pos, iteN, rd_set, List.set_set, List.length_set, eta_fact, eta_rumor, eta_doubt, eta_item, eta_rec, eta_due, look, look0, rd_toNat, wrap64, Int.toNat_natCast, Nat.zero_add, List.take_length, List.drop_zero, and_self, setB_len, true_and, and_true]
           with_reducible refine hR _ ?_
           clear hR R)
        | (with_reducible refine kon_ins fun R hR => ?_
           dsimp only [go_sem, Nat.reduceAdd, Nat.reduceMul, Nat.reduceSub, Nat.reduceBEq, Nat.reduceLeDiff, Nat.reduceEqDiff, ↓dreduceIte, toG]
           first
             | with_reducible refine hR _ ?_
             | (simp (disch := first | omega | (simp only [List.length_set, List.length_append, List.length_cons, List.length_nil, List.length_replicate]; omega)) only [guardP_T, guardP_pos, iteN, rd_set, List.set_set, List.length_set, eta_fact, eta_rumor, eta_doubt, eta_item, eta_rec, eta_due, look, look0, rd_toNat, wrap64, Int.toNat_natCast, Nat.zero_add, List.take_length, List.drop_zero, and_self, setB_len, true_and, and_true]
                try dsimp only [go_sem, Nat.reduceAdd, Nat.reduceMul, Nat.reduceSub, Nat.reduceBEq, Nat.reduceLeDiff, Nat.reduceEqDiff, ↓dreduceIte, toG]
                try simp (disch := first | omega | (simp only [List.length_set, List.length_append, List.length_cons, List.length_nil, List.length_replicate]; omega)) only [guardP_T, guardP_pos, iteN, rd_set, List.set_set, List.length_set, eta_fact, eta_rumor, eta_doubt, eta_item, eta_rec, eta_due, look, look0, rd_toNat, wrap64, Int.toNat_natCast, Nat.zero_add, List.take_length, List.drop_zero, and_self, setB_len, true_and, and_true]
                with_reducible refine hR _ ?_)
           clear hR R)
        | (with_reducible refine kon_g_run ?_ ?_
           · dsimp only [nth] <;> with_reducible rfl)
        | (with_reducible refine kon_g_skip ?_ ?_
           · dsimp only [nth, not_t', not_f'] <;> with_reducible rfl
           dsimp only [go_sem])
        | (with_reducible refine kon_g_undef ?_ ?_
           · dsimp only [nth] <;> with_reducible rfl
           dsimp only [go_sem])
        | (with_reducible refine kon_g fun R hR => ?_
           dsimp only [go_sem, Nat.reduceAdd, Nat.reduceMul, Nat.reduceSub, Nat.reduceBEq, Nat.reduceLeDiff, Nat.reduceEqDiff, ↓dreduceIte, toG]
           split <;> (rename_i hb; with_reducible refine hR _ ?_; clear hR R; try simp only [hb]; try simp only [decide_eq_true_eq, decide_eq_false_iff_not, beq_iff_eq, beq_eq_false_iff_ne, bne_iff_ne, bne_eq_false_iff_eq, Bool.not_eq_true, Bool.not_eq_false, Bool.not_eq_eq_eq_not, Bool.not_true, Bool.not_false, ne_eq, Int.not_lt, Int.not_le, eq_self, not_true_eq_false, not_false_eq_true, decide_true, decide_false, Bool.and_eq_true, Bool.or_eq_true, Bool.and_eq_false_iff, Bool.or_eq_false_iff, gt_iff_lt, ge_iff_le, Bool.false_eq_true, Bool.true_eq_false, reduceCtorEq, or_false, false_or, or_true, true_or, false_and, and_false] at hb; try (exfalso; omega)))
        | (with_reducible refine kon_cond fun R1 R2 h1 h2 => ?_
           dsimp only [go_sem]
           first
             | (with_reducible refine h1 ?_; clear h1 h2 R1 R2)
             | (with_reducible refine h2 ?_; clear h1 h2 R1 R2)
             | ((split <;> rename_i hb <;> first
                 | (with_reducible refine h1 ?_; clear h1 h2 R1 R2; try simp only [hb])
                 | (with_reducible refine h2 ?_; clear h1 h2 R1 R2; try simp only [hb])) <;> (try simp only [decide_eq_true_eq, decide_eq_false_iff_not, beq_iff_eq, beq_eq_false_iff_ne, bne_iff_ne, bne_eq_false_iff_eq, Bool.not_eq_true, Bool.not_eq_false, Bool.not_eq_eq_eq_not, Bool.not_true, Bool.not_false, ne_eq, Int.not_lt, Int.not_le, eq_self, not_true_eq_false, not_false_eq_true, decide_true, decide_false, Bool.and_eq_true, Bool.or_eq_true, Bool.and_eq_false_iff, Bool.or_eq_false_iff, gt_iff_lt, ge_iff_le, Bool.false_eq_true, Bool.true_eq_false, reduceCtorEq, or_false, false_or, or_true, true_or, false_and, and_false] at hb; try (exfalso; omega))))
      all_goals first
        | (dsimp only [kon]
           with_reducible refine hQ _ _ _ ?_
           dsimp only [kon, endQ, af147, conCl147, go_sem, Nat.reduceAdd, Nat.reduceMul, Nat.reduceSub, Nat.reduceBEq, Nat.reduceLeDiff, Nat.reduceEqDiff, ↓dreduceIte, toG]
           try simp (disch := first | omega | (simp only [List.length_set, List.length_append, List.length_cons, List.length_nil, List.length_replicate]; omega)) only [guardP_T, guardP_pos, iteN, rd_set, List.set_set, List.length_set, eta_fact, eta_rumor, eta_doubt, eta_item, eta_rec, eta_due, look, look0, rd_toNat, wrap64, Int.toNat_natCast, Nat.zero_add, List.take_length, List.drop_zero, and_self, setB_len, true_and, and_true]
           try dsimp only [go_sem, Nat.reduceAdd, Nat.reduceMul, Nat.reduceSub, Nat.reduceBEq, Nat.reduceLeDiff, Nat.reduceEqDiff, ↓dreduceIte, toG])
        | skip
      all_goals try first
        | omega
        | (simp; done)
        | (simp; omega)
      all_goals (simp_all [notOk, gotP, lifeP, nodeP, sentP, isLife])
    · simp at h'

def conCl201 : Con := ⟨[.v, .v], .v, fun as => match as with
  | [.agg [.int .i64 a, .int .i64 b, .int .i64 c, .int .i64 d, .int .i64 e, .int .i64 f], .ip [.int .i64 xa, .int .i64 xb, .int .i64 xc, .int .i64 xd, .int .i64 xe, .int .i64 xf] 0] => some (.bool (sentP ⟨xa, xb, xc, xd, xe, xf⟩ (⟨a, b, c, d, e, f⟩ : Rec)), [])
  | _ => none⟩

-- loop.example/g00678/impl.isSentFor$1 hows []
def af201 : AF := ⟨28, [.t 3],
  .seq (.reg [⟨some 2, .box (.t 0), none⟩,
    ⟨some 3, .mv (.b false), none⟩])
  (.seq (.reg [⟨some 4, .fa 2 (.t 2), none⟩,
    ⟨some 5, .ld false 1 (.t 4), none⟩,
    ⟨some 6, .bin .eql (.t 5) (.i 3), none⟩,
    ⟨some 7, .mv (.t 6), none⟩,
    ⟨some 8, .fa 3 (.t 2), some (7, true)⟩,
    ⟨some 9, .ld false 1 (.t 8), some (7, true)⟩,
    ⟨some 10, .fa 3 (.t 1), some (7, true)⟩,
    ⟨some 11, .ld false 1 (.t 10), some (7, true)⟩,
    ⟨some 12, .bin .eql (.t 9) (.t 11), some (7, true)⟩,
    ⟨some 13, .pick (.t 7) (.t 12) (.b false), none⟩,
    ⟨some 14, .mv (.t 13), none⟩,
    ⟨some 15, .fa 1 (.t 2), some (14, true)⟩,
    ⟨some 16, .ld false 1 (.t 15), some (14, true)⟩,
    ⟨some 17, .fa 4 (.t 1), some (14, true)⟩,
    ⟨some 18, .ld false 1 (.t 17), some (14, true)⟩,
    ⟨some 19, .bin .eql (.t 16) (.t 18), some (14, true)⟩,
    ⟨some 20, .pick (.t 14) (.t 19) (.b false), none⟩,
    ⟨some 21, .mv (.t 20), none⟩,
    ⟨some 22, .fa 4 (.t 2), some (21, true)⟩,
    ⟨some 23, .ld false 1 (.t 22), some (21, true)⟩,
    ⟨some 24, .fa 1 (.t 1), some (21, true)⟩,
    ⟨some 25, .ld false 1 (.t 24), some (21, true)⟩,
    ⟨some 26, .bin .eql (.t 23) (.t 25), some (21, true)⟩,
    ⟨some 27, .pick (.t 21) (.t 26) (.b false), none⟩,
    ⟨some 3, .mv (.t 27), none⟩])
  (.ret))⟩

set_option maxHeartbeats 4000000 in
theorem does201 (as : List AV) (hok : ok 64 as) : Does tbNone af201 conCl201 as := by
  cases h : (conCl201).run as with
  | none => exact does_none h
  | some out =>
    have h' := h
    simp only [conCl201] at h'
    split at h'
    · rename_i a b c d e f xa xb xc xd xe xf
      simp only [Option.some.injEq] at h'
      subst h'
      have hmo : (most : Int) = 1099511627776 := rfl
      have hml : (maxLen : Int) = 9223372036854775807 := rfl
      with_reducible refine does_by h fun Q hQ => ?_
      clear h
      dsimp only [af201, conCl201, go_sem, Nat.reduceAdd, Nat.reduceMul, Nat.reduceSub, Nat.reduceBEq, Nat.reduceLeDiff, Nat.reduceEqDiff, ↓dreduceIte, toG]
      repeat' first
        | with_reducible refine kon_seq ?_
        | with_reducible refine kon_nil ?_
        | with_reducible refine kon_any ?_ ?_
        | with_reducible exact kon_any_nil
        | with_reducible refine kon_skip ?_
        | with_reducible refine kon_block ?_
        | with_reducible refine kon_ret ?_
        | with_reducible refine kon_exit ?_
        | with_reducible refine kon_past_ret ?_
        | with_reducible refine kon_past_exit ?_
        | with_reducible refine kon_blk_ret ?_
        | with_reducible refine kon_blk_end ?_
        | with_reducible refine kon_blk_exit ?_
        | (with_reducible refine kon_blk_past ?_ ?_
           · decide)
        | with_reducible refine loop_exit ?_
        | with_reducible refine loop_ret ?_
        | with_reducible refine mid_exit ?_
        | with_reducible refine mid_ret ?_
        | ((first | with_reducible refine kon_bin fun R hR => ?_ | with_reducible refine kon_conv fun R hR => ?_)
           dsimp only [go_sem, Nat.reduceAdd, Nat.reduceMul, Nat.reduceSub, Nat.reduceBEq, Nat.reduceLeDiff, Nat.reduceEqDiff, ↓dreduceIte, toG]
           try simp (disch := first | omega | (simp only [List.length_set, List.length_append, List.length_cons, List.length_nil, List.length_replicate]; omega)) only [guardP_T, guardP_pos, iteN, rd_set, List.set_set, List.length_set, eta_fact, eta_rumor, eta_doubt, eta_item, eta_rec, eta_due, look, look0, rd_toNat, wrap64, Int.toNat_natCast, Nat.zero_add, List.take_length, List.drop_zero, and_self, setB_len, true_and, and_true]
           with_reducible refine hR _ ?_
           clear hR R)
        | (with_reducible refine kon_ins fun R hR => ?_
           dsimp only [go_sem, Nat.reduceAdd, Nat.reduceMul, Nat.reduceSub, Nat.reduceBEq, Nat.reduceLeDiff, Nat.reduceEqDiff, ↓dreduceIte, toG]
           first
             | with_reducible refine hR _ ?_
             | (simp (disch := first | omega | (simp only [List.length_set, List.length_append, List.length_cons, List.length_nil, List.length_replicate]; omega)) only [guardP_T, guardP_pos, iteN, rd_set, List.set_set, List.length_set, eta_fact, eta_rumor, eta_doubt, eta_item, eta_rec, eta_due, look, look0, rd_toNat, wrap64, Int.toNat_natCast, Nat.zero_add, List.take_length, List.drop_zero, and_self, setB_len, true_and, and_true]
                try dsimp only [go_sem, Nat.reduceAdd, Nat.reduceMul, Nat.reduceSub, Nat.reduceBEq, Nat.reduceLeDiff, Nat.reduceEqDiff, ↓dreduceIte, toG]
                try simp (disch := first | omega | (simp only [List.length_set, List.length_append, List.length_cons, List.length_nil, List.length_replicate]; omega)) only [guardP_T, guardP_pos, iteN, rd_set, List.set_set, List.length_set, eta_fact, eta_rumor, eta_doubt, eta_item, eta_rec, eta_due, look, look0, rd_toNat, wrap64, Int.toNat_natCast, Nat.zero_add, List.take_length, List.drop_zero, and_self, setB_len, true_and, and_true]
                with_reducible refine hR _ ?_)
           clear hR R)
        | (with_reducible refine kon_g_run ?_ ?_
           · dsimp only [nth] <;> with_reducible rfl)
        | (with_reducible refine kon_g_skip ?_ ?_
           · dsimp only [nth, not_t', not_f'] <;> with_reducible rfl
           dsimp only [go_sem])
        | (with_reducible refine kon_g_undef ?_ ?_
           · dsimp only [nth] <;> with_reducible rfl
           dsimp only [go_sem])
        | (with_reducible refine kon_g fun R hR => ?_
           dsimp only [go_sem, Nat.reduceAdd, Nat.reduceMul, Nat.reduceSub, Nat.reduceBEq, Nat.reduceLeDiff, Nat.reduceEqDiff, ↓dreduceIte, toG]
           split <;> (rename_i hb; with_reducible refine hR _ ?_; clear hR R; try simp only [hb]; try simp only [decide_eq_true_eq, decide_eq_false_iff_not, beq_iff_eq, beq_eq_false_iff_ne, bne_iff_ne, bne_eq_false_iff_eq, Bool.not_eq_true, Bool.not_eq_false, Bool.not_eq_eq_eq_not, Bool.not_true, Bool.not_false, ne_eq, Int.not_lt, Int.not_le, eq_self, not_true_eq_false, not_false_eq_true, decide_true, decide_false, Bool.and_eq_true, Bool.or_eq_true, Bool.and_eq_false_iff, Bool.or_eq_false_iff, gt_iff_lt, ge_iff_le, Bool.false_eq_true, Bool.true_eq_false, reduceCtorEq, or_false, false_or, or_true, true_or, false_and, and_false] at hb; try (exfalso; omega)))
        | (with_reducible refine kon_cond fun R1 R2 h1 h2 => ?_
           dsimp only [go_sem]
           first
             | (with_reducible refine h1 ?_; clear h1 h2 R1 R2)
             | (with_reducible refine h2 ?_; clear h1 h2 R1 R2)
             | ((split <;> rename_i hb <;> first
                 | (with_reducible refine h1 ?_; clear h1 h2 R1 R2; try simp only [hb])
                 | (with_reducible refine h2 ?_; clear h1 h2 R1 R2; try simp only [hb])) <;> (try simp only [decide_eq_true_eq, decide_eq_false_iff_not, beq_iff_eq, beq_eq_false_iff_ne, bne_iff_ne, bne_eq_false_iff_eq, Bool.not_eq_true, Bool.not_eq_false, Bool.not_eq_eq_eq_not, Bool.not_true, Bool.not_false, ne_eq, Int.not_lt, Int.not_le, eq_self, not_true_eq_false, not_false_eq_true, decide_true, decide_false, Bool.and_eq_true, Bool.or_eq_true, Bool.and_eq_false_iff, Bool.or_eq_false_iff, gt_iff_lt, ge_iff_le, Bool.false_eq_true, Bool.true_eq_false, reduceCtorEq, or_false, false_or, or_true, true_or, false_and, and_false] at hb; try (exfalso; omega))))
      all_goals first
        | (dsimp only [kon]
           with_reducible refine hQ _ _ _ ?_
           dsimp only [kon, endQ, af201, conCl201, go_sem, Nat.reduceAdd, Nat.reduceMul, Nat.reduceSub, Nat.reduceBEq, Nat.reduceLeDiff, Nat.reduceEqDiff, ↓dreduceIte, toG]
           try simp (disch := first | omega | (simp only [List.length_set, List.length_append, List.length_cons, List.length_nil, List.length_replicate]; omega)) only [guardP_T, guardP_pos, iteN, rd_set, List.set_set, List.length_set, eta_fact, eta_rumor, eta_doubt, eta_item, eta_rec, eta_due, look, look0, rd_toNat, wrap64, Int.toNat_natCast, Nat.zero_add, List.take_length, List.drop_zero, and_self, setB_len, true_and, and_true]
           try dsimp only [go_sem, Nat.reduceAdd, Nat.reduceMul, Nat.reduceSub, Nat.reduceBEq, Nat.reduceLeDiff, Nat.reduceEqDiff, ↓dreduceIte, toG])
        | skip
      all_goals try first
        | omega
        | (simp; done)
        | (simp; omega)
      all_goals (simp_all [notOk, gotP, lifeP, nodeP, sentP, isLife])
    · simp at h'

/-- What a function value says of a record. -/
def semR : FuncId → List AV → Option (Rec → Bool)
  | 143, [] => some (notOk)
  | 214, [.ip [.int .i64 x] 0] => some (lifeP x)
  | 147, [.ip [.int .i64 xa, .int .i64 xb, .int .i64 xc, .int .i64 xd, .int .i64 xe, .int .i64 xf] 0] => some (nodeP xb)
  | 201, [.ip [.int .i64 xa, .int .i64 xb, .int .i64 xc, .int .i64 xd, .int .i64 xe, .int .i64 xf] 0] => some (sentP ⟨xa, xb, xc, xd, xe, xf⟩)
  | _, _ => none

theorem semR_143 : semR 143 [] = some (notOk) := rfl
theorem semR_214 (x : Int) : semR 214 [.ip [.int .i64 x] 0] = some (lifeP x) := rfl
theorem semR_147 (xa xb xc xd xe xf : Int) : semR 147 [.ip [.int .i64 xa, .int .i64 xb, .int .i64 xc, .int .i64 xd, .int .i64 xe, .int .i64 xf] 0] = some (nodeP xb) := rfl
theorem semR_201 (xa xb xc xd xe xf : Int) : semR 201 [.ip [.int .i64 xa, .int .i64 xb, .int .i64 xc, .int .i64 xd, .int .i64 xe, .int .i64 xf] 0] = some (sentP ⟨xa, xb, xc, xd, xe, xf⟩) := rfl

def tbCl : Tab := fun f => match f with
  | 143 => some conCl143
  | 147 => some conCl147
  | 201 => some conCl201
  | 214 => some conCl214
  | _ => none

theorem tbCl_143 : tbCl 143 = some conCl143 := rfl
theorem tbCl_147 : tbCl 147 = some conCl147 := rfl
theorem tbCl_201 : tbCl 201 = some conCl201 := rfl
theorem tbCl_214 : tbCl 214 = some conCl214 := rfl

theorem semR_call {f : FuncId} {caps : List AV} {p : Rec → Bool} (h : semR f caps = some p) (x : Rec) (m : List Blk) : (match tbCl f with | some c => callA c (.agg [.int .i64 x.at_, .int .i64 x.node, .int .i64 x.kind, .int .i64 x.a, .int .i64 x.b, .int .i64 x.c] :: caps) m | none => none) = some (.bool (p x), m) := by
  unfold semR at h
  split at h <;> cases h <;> rfl

theorem semR_ids {f : FuncId} {caps : List AV} {p : Rec → Bool} (h : semR f caps = some p) (m : List Blk) (d : Nat) : idsOf m (d + 10) caps = some [] := by
  unfold semR at h
  split at h <;> cases h <;> rfl

theorem semR_ren {f : FuncId} {caps : List AV} {p : Rec → Bool} (h : semR f caps = some p) (e : Nat) (m : List Blk) (ids : List Nat) (d : Nat) : ren e m ids (d + 10) caps = some caps := by
  unfold semR at h
  split at h <;> cases h <;> rfl

theorem semR_im {f : FuncId} {caps : List AV} {p : Rec → Bool} (h : semR f caps = some p) (m : List Blk) (d : Nat) : im m (d + 10) caps = some caps := by
  unfold semR at h
  split at h <;> cases h <;> rfl

def conIndexR : Con := ⟨[.imm .rcd, .fn], .v, fun as => match as with
  | [.sl .rcd l, .fn f caps] => match semR f caps with
    | some p => some (.int .i64 (firstI p l 0), [])
    | none => none
  | _ => none⟩

def conContainsR : Con := ⟨[.imm .rcd, .fn], .v, fun as => match as with
  | [.sl .rcd l, .fn f caps] => match semR f caps with
    | some p => some (.bool (l.any p), [])
    | none => none
  | _ => none⟩

def conLastOf : Con := ⟨[.imm .rcd, .v, .fn], .v, fun as => match as with
  | [.sl .rcd l, .int .i64 i, .fn f caps] => match semR f caps with
    | some p => guardP (0 ≤ i ∧ i ≤ l.length) (some (.int .i64 (lastI p l i.toNat), []))
    | none => none
  | _ => none⟩

-- slices.IndexFunc[[]loop.example/g00678/impl.Rec,loop.example/g00678/impl.Rec] hows []
def lp194_0 : AC := .seq (.reg [⟨some 9, .bin .lss (.t 8) (.t 7), none⟩])
      (.seq (.cond (.t 9)
        (.skip)
        (.exit 0))
      (.seq (.block 1 (.seq (.reg [⟨some 10, .mv (.t 8), none⟩,
          ⟨some 5, .mv (.t 10), none⟩])
        (.seq (.reg [⟨some 11, .mv (.t 1), none⟩,
          ⟨some 12, .mv (.t 0), none⟩,
          ⟨some 13, .mv (.t 5), none⟩,
          ⟨some 14, .ia .rcd (.t 12) (.t 13), none⟩,
          ⟨some 15, .ld true 6 (.t 14), none⟩,
          ⟨some 16, .callv (.t 11) [(.t 15)], none⟩])
        (.cond (.t 16)
          (.seq (.reg [⟨some 17, .mv (.t 5), none⟩,
            ⟨some 4, .mv (.t 17), none⟩])
          (.ret))
          (.skip)))))
      (.reg [⟨some 18, .bin .add (.t 8) (.i 1), none⟩,
        ⟨some 8, .mv (.t 18), none⟩])))
def af194 : AF := ⟨19, [.t 4],
  .seq (.reg [⟨some 4, .mv (.i 0), none⟩])
  (.seq (.seq (.reg [⟨some 6, .mv (.t 0), none⟩,
    ⟨some 7, .len (.t 6), none⟩,
    ⟨some 8, .mv (.i 0), none⟩])
  (.block 0 (.loop lp194_0)))
  (.seq (.reg [⟨some 4, .mv (.i (-1)), none⟩])
  (.ret)))⟩

set_option maxHeartbeats 4000000 in
theorem does194 (as : List AV) (hok : ok 64 as) : Does tbCl af194 conIndexR as := by
  cases h : (conIndexR).run as with
  | none => exact does_none h
  | some out =>
    have h' := h
    simp only [conIndexR] at h'
    split at h'
    · rename_i l f caps
      cases hop : semR f caps with
      | none => simp [hop] at h'
      | some p =>
      simp only [hop] at h'
      have hids := semR_ids hop
      have hren := semR_ren hop
      have him := semR_im hop
      simp only [ok] at hok
      obtain ⟨⟨hlen, _⟩, _⟩ := hok
      simp only [Option.some.injEq] at h'
      subst h'
      have hmo : (most : Int) = 1099511627776 := rfl
      have hml : (maxLen : Int) = 9223372036854775807 := rfl
      with_reducible refine does_by h fun Q hQ => ?_
      clear h
      dsimp only [af194, conIndexR, go_sem, Nat.reduceAdd, Nat.reduceMul, Nat.reduceSub, Nat.reduceBEq, Nat.reduceLeDiff, Nat.reduceEqDiff, ↓dreduceIte, toG]
      repeat' first
        | with_reducible refine kon_seq ?_
        | with_reducible refine kon_nil ?_
        | with_reducible refine kon_any ?_ ?_
        | with_reducible exact kon_any_nil
        | with_reducible refine kon_skip ?_
        | with_reducible refine kon_block ?_
        | with_reducible refine kon_ret ?_
        | with_reducible refine kon_exit ?_
        | with_reducible refine kon_past_ret ?_
        | with_reducible refine kon_past_exit ?_
        | with_reducible refine kon_blk_ret ?_
        | with_reducible refine kon_blk_end ?_
        | with_reducible refine kon_blk_exit ?_
        | (with_reducible refine kon_blk_past ?_ ?_
           · decide)
        | with_reducible refine loop_exit ?_
        | with_reducible refine loop_ret ?_
        | with_reducible refine mid_exit ?_
        | with_reducible refine mid_ret ?_
        | ((first | with_reducible refine kon_bin fun R hR => ?_ | with_reducible refine kon_conv fun R hR => ?_)
           dsimp only [go_sem, Nat.reduceAdd, Nat.reduceMul, Nat.reduceSub, Nat.reduceBEq, Nat.reduceLeDiff, Nat.reduceEqDiff, ↓dreduceIte, toG]
           try simp (disch := first | omega | (simp only [List.length_set, List.length_append, List.length_cons, List.length_nil, List.length_replicate]; omega)) only [guardP_T, guardP_pos, iteN, rd_set, List.set_set, List.length_set, eta_fact, eta_rumor, eta_doubt, eta_item, eta_rec, eta_due, look, look0, rd_toNat, wrap64, Int.toNat_natCast, Nat.zero_add, List.take_length, List.drop_zero, and_self, setB_len, true_and, and_true]
           with_reducible refine hR _ ?_
           clear hR R)
        | (with_reducible apply kon_callv
           · dsimp only [O.get, nth] <;> exact rfl
           · dsimp only [O.get, nth, map_cons', map_nil', List.cons_append, List.nil_append]
             exact semR_call hop (rd l i) _
           dsimp only [go_sem])
        | (with_reducible refine kon_ins fun R hR => ?_
           dsimp only [go_sem, Nat.reduceAdd, Nat.reduceMul, Nat.reduceSub, Nat.reduceBEq, Nat.reduceLeDiff, Nat.reduceEqDiff, ↓dreduceIte, toG]
           first
             | with_reducible refine hR _ ?_
             | (simp (disch := first | omega | (simp only [List.length_set, List.length_append, List.length_cons, List.length_nil, List.length_replicate]; omega)) only [guardP_T, guardP_pos, iteN, rd_set, List.set_set, List.length_set, eta_fact, eta_rumor, eta_doubt, eta_item, eta_rec, eta_due, look, look0, rd_toNat, wrap64, Int.toNat_natCast, Nat.zero_add, List.take_length, List.drop_zero, and_self, setB_len, true_and, and_true]
                try dsimp only [go_sem, Nat.reduceAdd, Nat.reduceMul, Nat.reduceSub, Nat.reduceBEq, Nat.reduceLeDiff, Nat.reduceEqDiff, ↓dreduceIte, toG]
                try simp (disch := first | omega | (simp only [List.length_set, List.length_append, List.length_cons, List.length_nil, List.length_replicate]; omega)) only [guardP_T, guardP_pos, iteN, rd_set, List.set_set, List.length_set, eta_fact, eta_rumor, eta_doubt, eta_item, eta_rec, eta_due, look, look0, rd_toNat, wrap64, Int.toNat_natCast, Nat.zero_add, List.take_length, List.drop_zero, and_self, setB_len, true_and, and_true]
                with_reducible refine hR _ ?_)
           clear hR R)
        | (with_reducible refine kon_g_run ?_ ?_
           · dsimp only [nth] <;> with_reducible rfl)
        | (with_reducible refine kon_g_skip ?_ ?_
           · dsimp only [nth, not_t', not_f'] <;> with_reducible rfl
           dsimp only [go_sem])
        | (with_reducible refine kon_g_undef ?_ ?_
           · dsimp only [nth] <;> with_reducible rfl
           dsimp only [go_sem])
        | (with_reducible refine kon_g fun R hR => ?_
           dsimp only [go_sem, Nat.reduceAdd, Nat.reduceMul, Nat.reduceSub, Nat.reduceBEq, Nat.reduceLeDiff, Nat.reduceEqDiff, ↓dreduceIte, toG]
           split <;> (rename_i hb; with_reducible refine hR _ ?_; clear hR R; try simp only [hb]; try simp only [decide_eq_true_eq, decide_eq_false_iff_not, beq_iff_eq, beq_eq_false_iff_ne, bne_iff_ne, bne_eq_false_iff_eq, Bool.not_eq_true, Bool.not_eq_false, Bool.not_eq_eq_eq_not, Bool.not_true, Bool.not_false, ne_eq, Int.not_lt, Int.not_le, eq_self, not_true_eq_false, not_false_eq_true, decide_true, decide_false, Bool.and_eq_true, Bool.or_eq_true, Bool.and_eq_false_iff, Bool.or_eq_false_iff, gt_iff_lt, ge_iff_le, Bool.false_eq_true, Bool.true_eq_false, reduceCtorEq, or_false, false_or, or_true, true_or, false_and, and_false] at hb; try (exfalso; omega)))
        | (with_reducible refine kon_cond fun R1 R2 h1 h2 => ?_
           dsimp only [go_sem]
           first
             | (with_reducible refine h1 ?_; clear h1 h2 R1 R2)
             | (with_reducible refine h2 ?_; clear h1 h2 R1 R2)
             | ((split <;> rename_i hb <;> first
                 | (with_reducible refine h1 ?_; clear h1 h2 R1 R2; try simp only [hb])
                 | (with_reducible refine h2 ?_; clear h1 h2 R1 R2; try simp only [hb])) <;> (try simp only [decide_eq_true_eq, decide_eq_false_iff_not, beq_iff_eq, beq_eq_false_iff_ne, bne_iff_ne, bne_eq_false_iff_eq, Bool.not_eq_true, Bool.not_eq_false, Bool.not_eq_eq_eq_not, Bool.not_true, Bool.not_false, ne_eq, Int.not_lt, Int.not_le, eq_self, not_true_eq_false, not_false_eq_true, decide_true, decide_false, Bool.and_eq_true, Bool.or_eq_true, Bool.and_eq_false_iff, Bool.or_eq_false_iff, gt_iff_lt, ge_iff_le, Bool.false_eq_true, Bool.true_eq_false, reduceCtorEq, or_false, false_or, or_true, true_or, false_and, and_false] at hb; try (exfalso; omega))))
        | (with_reducible refine kon_rounds (a := lp194_0) [0, 1, 7, 8] (fun n9 s9 => ∃ (i : Int), ((0 ≤ i) ∧ (i ≤ l.length) ∧ (firstI p l 0 = firstI p (l.drop i.toNat) i)) ∧ n9 = (l.length - i).toNat ∧ s9.m = [] ∧ s9.t = [.sl .rcd l, .fn f caps, nth s9.t 2, nth s9.t 3, nth s9.t 4, nth s9.t 5, nth s9.t 6, .int .i64 l.length, .int .i64 i, nth s9.t 9, nth s9.t 10, nth s9.t 11, nth s9.t 12, nth s9.t 13, nth s9.t 14, nth s9.t 15, nth s9.t 16, nth s9.t 17, nth s9.t 18]) ?_ ?_
           all_goals first
             | (rintro n9 ⟨t9, m9⟩ ⟨i, ⟨hI0, hI1, hI2⟩, rfl, hm9, ht9⟩
                dsimp only at hm9 ht9
                subst hm9
                rw [ht9]
                clear ht9
                dsimp only [lp194_0])
             | (dsimp only [go_sem, Nat.reduceAdd, Nat.reduceMul, Nat.reduceSub, Nat.reduceBEq, Nat.reduceLeDiff, Nat.reduceEqDiff, ↓dreduceIte, toG]
                simp only [hids, hren]
                try dsimp only [go_sem, Nat.reduceAdd, Nat.reduceMul, Nat.reduceSub, Nat.reduceBEq, Nat.reduceLeDiff, Nat.reduceEqDiff, ↓dreduceIte, toG]
                refine ⟨_, _, ⟨?_, ?_, ?_⟩, rfl, (by first | exact rfl | exact trivial), rfl⟩))
        | (with_reducible refine loop_again (keep := [0, 1, 7, 8]) ?_
           dsimp only [go_sem, Nat.reduceAdd, Nat.reduceMul, Nat.reduceSub, Nat.reduceBEq, Nat.reduceLeDiff, Nat.reduceEqDiff, ↓dreduceIte, toG]
           simp only [hids, hren]
           try dsimp only [go_sem, Nat.reduceAdd, Nat.reduceMul, Nat.reduceSub, Nat.reduceBEq, Nat.reduceLeDiff, Nat.reduceEqDiff, ↓dreduceIte, toG]
           refine ⟨_, ?_, _, ⟨?_, ?_, ?_⟩, rfl, (by first | exact rfl | exact trivial), rfl⟩)
      all_goals first
        | (dsimp only [kon]
           with_reducible refine hQ _ _ _ ?_
           dsimp only [kon, endQ, af194, conIndexR, go_sem, Nat.reduceAdd, Nat.reduceMul, Nat.reduceSub, Nat.reduceBEq, Nat.reduceLeDiff, Nat.reduceEqDiff, ↓dreduceIte, toG]
           try simp (disch := first | omega | (simp only [List.length_set, List.length_append, List.length_cons, List.length_nil, List.length_replicate]; omega)) only [guardP_T, guardP_pos, iteN, rd_set, List.set_set, List.length_set, eta_fact, eta_rumor, eta_doubt, eta_item, eta_rec, eta_due, look, look0, rd_toNat, wrap64, Int.toNat_natCast, Nat.zero_add, List.take_length, List.drop_zero, and_self, setB_len, true_and, and_true]
           try dsimp only [go_sem, Nat.reduceAdd, Nat.reduceMul, Nat.reduceSub, Nat.reduceBEq, Nat.reduceLeDiff, Nat.reduceEqDiff, ↓dreduceIte, toG])
        | skip
      all_goals try first
        | omega
        | (simp; done)
        | (simp; omega)
      all_goals first
        | (rw [hI2, drop_rd (by omega) (by omega), firstI]
           simp_all
           done)
        | (rw [hI2, drop_all (by omega)]; rfl)
    · simp at h'

def tb142 : Tab := fun f => match f with
  | 194 => some conIndexR
  | _ => none

theorem tb142_194 : tb142 194 = some conIndexR := rfl

-- slices.ContainsFunc[[]loop.example/g00678/impl.Rec,loop.example/g00678/impl.Rec] hows []
def af142 : AF := ⟨9, [.t 4],
  .seq (.reg [⟨some 4, .mv (.b false), none⟩])
  (.seq (.reg [⟨some 5, .mv (.t 0), none⟩,
    ⟨some 6, .mv (.t 1), none⟩,
    ⟨some 7, .call 194 [(.t 5), (.t 6)], none⟩,
    ⟨some 8, .bin .geq (.t 7) (.i 0), none⟩,
    ⟨some 4, .mv (.t 8), none⟩])
  (.ret))⟩

set_option maxHeartbeats 4000000 in
theorem does142 (as : List AV) (hok : ok 64 as) : Does tb142 af142 conContainsR as := by
  cases h : (conContainsR).run as with
  | none => exact does_none h
  | some out =>
    have h' := h
    simp only [conContainsR] at h'
    split at h'
    · rename_i l f caps
      cases hop : semR f caps with
      | none => simp [hop] at h'
      | some p =>
      simp only [hop] at h'
      have hids := semR_ids hop
      have hren := semR_ren hop
      have him := semR_im hop
      simp only [Option.some.injEq] at h'
      subst h'
      have hmo : (most : Int) = 1099511627776 := rfl
      have hml : (maxLen : Int) = 9223372036854775807 := rfl
      with_reducible refine does_by h fun Q hQ => ?_
      clear h
      dsimp only [af142, conContainsR, go_sem, Nat.reduceAdd, Nat.reduceMul, Nat.reduceSub, Nat.reduceBEq, Nat.reduceLeDiff, Nat.reduceEqDiff, ↓dreduceIte, toG, tb142_194, conIndexR]
      repeat' first
        | with_reducible refine kon_seq ?_
        | with_reducible refine kon_nil ?_
        | with_reducible refine kon_any ?_ ?_
        | with_reducible exact kon_any_nil
        | with_reducible refine kon_skip ?_
        | with_reducible refine kon_block ?_
        | with_reducible refine kon_ret ?_
        | with_reducible refine kon_exit ?_
        | with_reducible refine kon_past_ret ?_
        | with_reducible refine kon_past_exit ?_
        | with_reducible refine kon_blk_ret ?_
        | with_reducible refine kon_blk_end ?_
        | with_reducible refine kon_blk_exit ?_
        | (with_reducible refine kon_blk_past ?_ ?_
           · decide)
        | with_reducible refine loop_exit ?_
        | with_reducible refine loop_ret ?_
        | with_reducible refine mid_exit ?_
        | with_reducible refine mid_ret ?_
        | ((first | with_reducible refine kon_bin fun R hR => ?_ | with_reducible refine kon_conv fun R hR => ?_)
           dsimp only [go_sem, Nat.reduceAdd, Nat.reduceMul, Nat.reduceSub, Nat.reduceBEq, Nat.reduceLeDiff, Nat.reduceEqDiff, ↓dreduceIte, toG, tb142_194, conIndexR]
           try simp (disch := first | omega | (simp only [List.length_set, List.length_append, List.length_cons, List.length_nil, List.length_replicate]; omega)) only [guardP_T, guardP_pos, iteN, rd_set, List.set_set, List.length_set, eta_fact, eta_rumor, eta_doubt, eta_item, eta_rec, eta_due, look, look0, rd_toNat, wrap64, Int.toNat_natCast, Nat.zero_add, List.take_length, List.drop_zero, and_self, setB_len, true_and, and_true, hop, him]
           with_reducible refine hR _ ?_
           clear hR R)
        | (with_reducible refine kon_ins fun R hR => ?_
           dsimp only [go_sem, Nat.reduceAdd, Nat.reduceMul, Nat.reduceSub, Nat.reduceBEq, Nat.reduceLeDiff, Nat.reduceEqDiff, ↓dreduceIte, toG, tb142_194, conIndexR]
           first
             | with_reducible refine hR _ ?_
             | (simp (disch := first | omega | (simp only [List.length_set, List.length_append, List.length_cons, List.length_nil, List.length_replicate]; omega)) only [guardP_T, guardP_pos, iteN, rd_set, List.set_set, List.length_set, eta_fact, eta_rumor, eta_doubt, eta_item, eta_rec, eta_due, look, look0, rd_toNat, wrap64, Int.toNat_natCast, Nat.zero_add, List.take_length, List.drop_zero, and_self, setB_len, true_and, and_true, hop, him]
                try dsimp only [go_sem, Nat.reduceAdd, Nat.reduceMul, Nat.reduceSub, Nat.reduceBEq, Nat.reduceLeDiff, Nat.reduceEqDiff, ↓dreduceIte, toG, tb142_194, conIndexR]
                try simp (disch := first | omega | (simp only [List.length_set, List.length_append, List.length_cons, List.length_nil, List.length_replicate]; omega)) only [guardP_T, guardP_pos, iteN, rd_set, List.set_set, List.length_set, eta_fact, eta_rumor, eta_doubt, eta_item, eta_rec, eta_due, look, look0, rd_toNat, wrap64, Int.toNat_natCast, Nat.zero_add, List.take_length, List.drop_zero, and_self, setB_len, true_and, and_true, hop, him]
                with_reducible refine hR _ ?_)
           clear hR R)
        | (with_reducible refine kon_g_run ?_ ?_
           · dsimp only [nth] <;> with_reducible rfl)
        | (with_reducible refine kon_g_skip ?_ ?_
           · dsimp only [nth, not_t', not_f'] <;> with_reducible rfl
           dsimp only [go_sem])
        | (with_reducible refine kon_g_undef ?_ ?_
           · dsimp only [nth] <;> with_reducible rfl
           dsimp only [go_sem])
        | (with_reducible refine kon_g fun R hR => ?_
           dsimp only [go_sem, Nat.reduceAdd, Nat.reduceMul, Nat.reduceSub, Nat.reduceBEq, Nat.reduceLeDiff, Nat.reduceEqDiff, ↓dreduceIte, toG, tb142_194, conIndexR]
           split <;> (rename_i hb; with_reducible refine hR _ ?_; clear hR R; try simp only [hb]; try simp only [decide_eq_true_eq, decide_eq_false_iff_not, beq_iff_eq, beq_eq_false_iff_ne, bne_iff_ne, bne_eq_false_iff_eq, Bool.not_eq_true, Bool.not_eq_false, Bool.not_eq_eq_eq_not, Bool.not_true, Bool.not_false, ne_eq, Int.not_lt, Int.not_le, eq_self, not_true_eq_false, not_false_eq_true, decide_true, decide_false, Bool.and_eq_true, Bool.or_eq_true, Bool.and_eq_false_iff, Bool.or_eq_false_iff, gt_iff_lt, ge_iff_le, Bool.false_eq_true, Bool.true_eq_false, reduceCtorEq, or_false, false_or, or_true, true_or, false_and, and_false, hop, him] at hb; try (exfalso; omega)))
        | (with_reducible refine kon_cond fun R1 R2 h1 h2 => ?_
           dsimp only [go_sem]
           first
             | (with_reducible refine h1 ?_; clear h1 h2 R1 R2)
             | (with_reducible refine h2 ?_; clear h1 h2 R1 R2)
             | ((split <;> rename_i hb <;> first
                 | (with_reducible refine h1 ?_; clear h1 h2 R1 R2; try simp only [hb])
                 | (with_reducible refine h2 ?_; clear h1 h2 R1 R2; try simp only [hb])) <;> (try simp only [decide_eq_true_eq, decide_eq_false_iff_not, beq_iff_eq, beq_eq_false_iff_ne, bne_iff_ne, bne_eq_false_iff_eq, Bool.not_eq_true, Bool.not_eq_false, Bool.not_eq_eq_eq_not, Bool.not_true, Bool.not_false, ne_eq, Int.not_lt, Int.not_le, eq_self, not_true_eq_false, not_false_eq_true, decide_true, decide_false, Bool.and_eq_true, Bool.or_eq_true, Bool.and_eq_false_iff, Bool.or_eq_false_iff, gt_iff_lt, ge_iff_le, Bool.false_eq_true, Bool.true_eq_false, reduceCtorEq, or_false, false_or, or_true, true_or, false_and, and_false, hop, him] at hb; try (exfalso; omega))))
      all_goals first
        | (dsimp only [kon]
           with_reducible refine hQ _ _ _ ?_
           dsimp only [kon, endQ, af142, conContainsR, go_sem, Nat.reduceAdd, Nat.reduceMul, Nat.reduceSub, Nat.reduceBEq, Nat.reduceLeDiff, Nat.reduceEqDiff, ↓dreduceIte, toG, tb142_194, conIndexR]
           try simp (disch := first | omega | (simp only [List.length_set, List.length_append, List.length_cons, List.length_nil, List.length_replicate]; omega)) only [guardP_T, guardP_pos, iteN, rd_set, List.set_set, List.length_set, eta_fact, eta_rumor, eta_doubt, eta_item, eta_rec, eta_due, look, look0, rd_toNat, wrap64, Int.toNat_natCast, Nat.zero_add, List.take_length, List.drop_zero, and_self, setB_len, true_and, and_true]
           try dsimp only [go_sem, Nat.reduceAdd, Nat.reduceMul, Nat.reduceSub, Nat.reduceBEq, Nat.reduceLeDiff, Nat.reduceEqDiff, ↓dreduceIte, toG, tb142_194, conIndexR])
        | skip
      all_goals try first
        | omega
        | (simp; done)
        | (simp; omega)
      all_goals (simp only [Option.some.injEq, Prod.mk.injEq, AV.bool.injEq, and_true]; rw [Bool.eq_iff_iff, decide_eq_true_eq]; exact firstI_any p l 0 (by omega))
    · simp at h'

-- loop.example/g00678/impl.lastOf hows []
def lp146_0 : AC := .seq (.seq (.reg [⟨some 10, .mv (.t 7), none⟩,
        ⟨some 11, .bin .geq (.t 10) (.i 0), none⟩])
      (.cond (.t 11)
        (.skip)
        (.exit 0)))
      (.seq (.block 1 (.seq (.reg [⟨some 14, .mv (.t 2), none⟩,
          ⟨some 15, .mv (.t 0), none⟩,
          ⟨some 16, .mv (.t 7), none⟩,
          ⟨some 17, .ia .rcd (.t 15) (.t 16), none⟩,
          ⟨some 18, .ld true 6 (.t 17), none⟩,
          ⟨some 19, .callv (.t 14) [(.t 18)], none⟩])
        (.cond (.t 19)
          (.seq (.reg [⟨some 20, .mv (.t 7), none⟩,
            ⟨some 6, .mv (.t 20), none⟩])
          (.ret))
          (.skip))))
      (.reg [⟨some 12, .mv (.t 7), none⟩,
        ⟨some 13, .bin .sub (.t 12) (.i 1), none⟩,
        ⟨some 7, .mv (.t 13), none⟩]))
def af146 : AF := ⟨21, [.t 6],
  .seq (.reg [⟨some 6, .mv (.i 0), none⟩])
  (.seq (.seq (.reg [⟨some 8, .mv (.t 1), none⟩,
    ⟨some 9, .bin .sub (.t 8) (.i 1), none⟩,
    ⟨some 7, .mv (.t 9), none⟩])
  (.block 0 (.loop lp146_0)))
  (.seq (.reg [⟨some 6, .mv (.i (-1)), none⟩])
  (.ret)))⟩

set_option maxHeartbeats 4000000 in
theorem does146 (as : List AV) (hok : ok 64 as) : Does tbCl af146 conLastOf as := by
  cases h : (conLastOf).run as with
  | none => exact does_none h
  | some out =>
    have h' := h
    simp only [conLastOf] at h'
    split at h'
    · rename_i l i f caps
      cases hop : semR f caps with
      | none => simp [hop] at h'
      | some p =>
      simp only [hop] at h'
      have hids := semR_ids hop
      have hren := semR_ren hop
      have him := semR_im hop
      by_cases hp : 0 ≤ i ∧ i ≤ l.length
      case neg => simp [guardP, hp] at h'
      rw [guardP_pos hp] at h'
      obtain ⟨hp1, hp2⟩ := hp
      simp only [ok] at hok
      obtain ⟨⟨hlen, _⟩, _⟩ := hok
      simp only [Option.some.injEq] at h'
      subst h'
      have hmo : (most : Int) = 1099511627776 := rfl
      have hml : (maxLen : Int) = 9223372036854775807 := rfl
      with_reducible refine does_by h fun Q hQ => ?_
      clear h
      dsimp only [af146, conLastOf, go_sem, Nat.reduceAdd, Nat.reduceMul, Nat.reduceSub, Nat.reduceBEq, Nat.reduceLeDiff, Nat.reduceEqDiff, ↓dreduceIte, toG]
      repeat' first
        | with_reducible refine kon_seq ?_
        | with_reducible refine kon_nil ?_
        | with_reducible refine kon_any ?_ ?_
        | with_reducible exact kon_any_nil
        | with_reducible refine kon_skip ?_
        | with_reducible refine kon_block ?_
        | with_reducible refine kon_ret ?_
        | with_reducible refine kon_exit ?_
        | with_reducible refine kon_past_ret ?_
        | with_reducible refine kon_past_exit ?_
        | with_reducible refine kon_blk_ret ?_
        | with_reducible refine kon_blk_end ?_
        | with_reducible refine kon_blk_exit ?_
        | (with_reducible refine kon_blk_past ?_ ?_
           · decide)
        | with_reducible refine loop_exit ?_
        | with_reducible refine loop_ret ?_
        | with_reducible refine mid_exit ?_
        | with_reducible refine mid_ret ?_
        | ((first | with_reducible refine kon_bin fun R hR => ?_ | with_reducible refine kon_conv fun R hR => ?_)
           dsimp only [go_sem, Nat.reduceAdd, Nat.reduceMul, Nat.reduceSub, Nat.reduceBEq, Nat.reduceLeDiff, Nat.reduceEqDiff, ↓dreduceIte, toG]
           try simp (disch := first | omega | (simp only [List.length_set, List.length_append, List.length_cons, List.length_nil, List.length_replicate]; omega)) only [guardP_T, guardP_pos, iteN, rd_set, List.set_set, List.length_set, eta_fact, eta_rumor, eta_doubt, eta_item, eta_rec, eta_due, look, look0, rd_toNat, wrap64, Int.toNat_natCast, Nat.zero_add, List.take_length, List.drop_zero, and_self, setB_len, true_and, and_true]
           with_reducible refine hR _ ?_
           clear hR R)
        | (with_reducible apply kon_callv
           · dsimp only [O.get, nth] <;> exact rfl
           · dsimp only [O.get, nth, map_cons', map_nil', List.cons_append, List.nil_append]
             exact semR_call hop (rd l k) _
           dsimp only [go_sem])
        | (with_reducible refine kon_ins fun R hR => ?_
           dsimp only [go_sem, Nat.reduceAdd, Nat.reduceMul, Nat.reduceSub, Nat.reduceBEq, Nat.reduceLeDiff, Nat.reduceEqDiff, ↓dreduceIte, toG]
           first
             | with_reducible refine hR _ ?_
             | (simp (disch := first | omega | (simp only [List.length_set, List.length_append, List.length_cons, List.length_nil, List.length_replicate]; omega)) only [guardP_T, guardP_pos, iteN, rd_set, List.set_set, List.length_set, eta_fact, eta_rumor, eta_doubt, eta_item, eta_rec, eta_due, look, look0, rd_toNat, wrap64, Int.toNat_natCast, Nat.zero_add, List.take_length, List.drop_zero, and_self, setB_len, true_and, and_true]
                try dsimp only [go_sem, Nat.reduceAdd, Nat.reduceMul, Nat.reduceSub, Nat.reduceBEq, Nat.reduceLeDiff, Nat.reduceEqDiff, ↓dreduceIte, toG]
                try simp (disch := first | omega | (simp only [List.length_set, List.length_append, List.length_cons, List.length_nil, List.length_replicate]; omega)) only [guardP_T, guardP_pos, iteN, rd_set, List.set_set, List.length_set, eta_fact, eta_rumor, eta_doubt, eta_item, eta_rec, eta_due, look, look0, rd_toNat, wrap64, Int.toNat_natCast, Nat.zero_add, List.take_length, List.drop_zero, and_self, setB_len, true_and, and_true]
                with_reducible refine hR _ ?_)
           clear hR R)
        | (with_reducible refine kon_g_run ?_ ?_
           · dsimp only [nth] <;> with_reducible rfl)
        | (with_reducible refine kon_g_skip ?_ ?_
           · dsimp only [nth, not_t', not_f'] <;> with_reducible rfl
           dsimp only [go_sem])
        | (with_reducible refine kon_g_undef ?_ ?_
           · dsimp only [nth] <;> with_reducible rfl
           dsimp only [go_sem])
        | (with_reducible refine kon_g fun R hR => ?_
           dsimp only [go_sem, Nat.reduceAdd, Nat.reduceMul, Nat.reduceSub, Nat.reduceBEq, Nat.reduceLeDiff, Nat.reduceEqDiff, ↓dreduceIte, toG]
           split <;> (rename_i hb; with_reducible refine hR _ ?_; clear hR R; try simp only [hb]; try simp only [decide_eq_true_eq, decide_eq_false_iff_not, beq_iff_eq, beq_eq_false_iff_ne, bne_iff_ne, bne_eq_false_iff_eq, Bool.not_eq_true, Bool.not_eq_false, Bool.not_eq_eq_eq_not, Bool.not_true, Bool.not_false, ne_eq, Int.not_lt, Int.not_le, eq_self, not_true_eq_false, not_false_eq_true, decide_true, decide_false, Bool.and_eq_true, Bool.or_eq_true, Bool.and_eq_false_iff, Bool.or_eq_false_iff, gt_iff_lt, ge_iff_le, Bool.false_eq_true, Bool.true_eq_false, reduceCtorEq, or_false, false_or, or_true, true_or, false_and, and_false] at hb; try (exfalso; omega)))
        | (with_reducible refine kon_cond fun R1 R2 h1 h2 => ?_
           dsimp only [go_sem]
           first
             | (with_reducible refine h1 ?_; clear h1 h2 R1 R2)
             | (with_reducible refine h2 ?_; clear h1 h2 R1 R2)
             | ((split <;> rename_i hb <;> first
                 | (with_reducible refine h1 ?_; clear h1 h2 R1 R2; try simp only [hb])
                 | (with_reducible refine h2 ?_; clear h1 h2 R1 R2; try simp only [hb])) <;> (try simp only [decide_eq_true_eq, decide_eq_false_iff_not, beq_iff_eq, beq_eq_false_iff_ne, bne_iff_ne, bne_eq_false_iff_eq, Bool.not_eq_true, Bool.not_eq_false, Bool.not_eq_eq_eq_not, Bool.not_true, Bool.not_false, ne_eq, Int.not_lt, Int.not_le, eq_self, not_true_eq_false, not_false_eq_true, decide_true, decide_false, Bool.and_eq_true, Bool.or_eq_true, Bool.and_eq_false_iff, Bool.or_eq_false_iff, gt_iff_lt, ge_iff_le, Bool.false_eq_true, Bool.true_eq_false, reduceCtorEq, or_false, false_or, or_true, true_or, false_and, and_false] at hb; try (exfalso; omega))))
        | (with_reducible refine kon_rounds (a := lp146_0) [0, 2, 7] (fun n9 s9 => ∃ (k : Int), ((-1 ≤ k) ∧ (k < i) ∧ (lastI p l i.toNat = lastI p l (k + 1).toNat)) ∧ n9 = (k + 1).toNat ∧ s9.m = [] ∧ s9.t = [.sl .rcd l, nth s9.t 1, .fn f caps, nth s9.t 3, nth s9.t 4, nth s9.t 5, nth s9.t 6, .int .i64 k, nth s9.t 8, nth s9.t 9, nth s9.t 10, nth s9.t 11, nth s9.t 12, nth s9.t 13, nth s9.t 14, nth s9.t 15, nth s9.t 16, nth s9.t 17, nth s9.t 18, nth s9.t 19, nth s9.t 20]) ?_ ?_
           all_goals first
             | (rintro n9 ⟨t9, m9⟩ ⟨k, ⟨hI0, hI1, hI2⟩, rfl, hm9, ht9⟩
                dsimp only at hm9 ht9
                subst hm9
                rw [ht9]
                clear ht9
                dsimp only [lp146_0])
             | (dsimp only [go_sem, Nat.reduceAdd, Nat.reduceMul, Nat.reduceSub, Nat.reduceBEq, Nat.reduceLeDiff, Nat.reduceEqDiff, ↓dreduceIte, toG]
                simp only [hids, hren]
                try dsimp only [go_sem, Nat.reduceAdd, Nat.reduceMul, Nat.reduceSub, Nat.reduceBEq, Nat.reduceLeDiff, Nat.reduceEqDiff, ↓dreduceIte, toG]
                refine ⟨_, _, ⟨?_, ?_, ?_⟩, rfl, (by first | exact rfl | exact trivial), rfl⟩))
        | (with_reducible refine loop_again (keep := [0, 2, 7]) ?_
           dsimp only [go_sem, Nat.reduceAdd, Nat.reduceMul, Nat.reduceSub, Nat.reduceBEq, Nat.reduceLeDiff, Nat.reduceEqDiff, ↓dreduceIte, toG]
           simp only [hids, hren]
           try dsimp only [go_sem, Nat.reduceAdd, Nat.reduceMul, Nat.reduceSub, Nat.reduceBEq, Nat.reduceLeDiff, Nat.reduceEqDiff, ↓dreduceIte, toG]
           refine ⟨_, ?_, _, ⟨?_, ?_, ?_⟩, rfl, (by first | exact rfl | exact trivial), rfl⟩)
      all_goals first
        | (dsimp only [kon]
           with_reducible refine hQ _ _ _ ?_
           dsimp only [kon, endQ, af146, conLastOf, go_sem, Nat.reduceAdd, Nat.reduceMul, Nat.reduceSub, Nat.reduceBEq, Nat.reduceLeDiff, Nat.reduceEqDiff, ↓dreduceIte, toG]
           try simp (disch := first | omega | (simp only [List.length_set, List.length_append, List.length_cons, List.length_nil, List.length_replicate]; omega)) only [guardP_T, guardP_pos, iteN, rd_set, List.set_set, List.length_set, eta_fact, eta_rumor, eta_doubt, eta_item, eta_rec, eta_due, look, look0, rd_toNat, wrap64, Int.toNat_natCast, Nat.zero_add, List.take_length, List.drop_zero, and_self, setB_len, true_and, and_true]
           try dsimp only [go_sem, Nat.reduceAdd, Nat.reduceMul, Nat.reduceSub, Nat.reduceBEq, Nat.reduceLeDiff, Nat.reduceEqDiff, ↓dreduceIte, toG])
        | skip
      all_goals try first
        | omega
        | (simp; done)
        | (simp; omega)
      all_goals first
        | (rw [hI2, lastI_step (by omega)]
           split <;> first
             | rfl
             | (exfalso; simp_all; done)
             | (congr 1; omega))
        | (rw [hI2, show k = -1 by omega]; rfl)
        | (rw [show i - 1 + 1 = i by omega])
    · simp at h'

end Go.Proofs.Ytnghlmogcbmlfaa
