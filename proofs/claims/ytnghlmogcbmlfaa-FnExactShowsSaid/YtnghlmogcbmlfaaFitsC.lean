/- Records: right ones, and who lives. -/
import Derived.Test.YtnghlmogcbmlfaaFitsB
namespace Go.Proofs.Ytnghlmogcbmlfaa
set_option linter.unusedVariables false
set_option linter.unusedSimpArgs false
set_option linter.unnecessarySimpa false

def tb67 : Tab := fun f => match f with
  | 142 => some conContainsR
  | _ => none

theorem tb67_142 : tb67 142 = some conContainsR := rfl

-- loop.example/g00678/impl.areRecs hows []
def af67 : AF := ⟨11, [.t 2],
  .seq (.reg [⟨some 2, .mv (.b false), none⟩])
  (.seq (.reg [⟨some 3, .mv (.t 0), none⟩,
    ⟨some 4, .len (.t 3), none⟩,
    ⟨some 5, .bin .leq (.t 4) (.i 400), none⟩,
    ⟨some 6, .mv (.t 5), none⟩,
    ⟨some 7, .mv (.t 0), some (6, true)⟩,
    ⟨some 8, .call 142 [(.t 7), (.c (.fn 143 []))], some (6, true)⟩,
    ⟨some 9, .un .not (.t 8), some (6, true)⟩,
    ⟨some 10, .pick (.t 6) (.t 9) (.b false), none⟩,
    ⟨some 2, .mv (.t 10), none⟩])
  (.ret))⟩

set_option maxHeartbeats 4000000 in
theorem does67 (as : List AV) (hok : ok 64 as) : Does tb67 af67 conRecsOk as := by
  cases h : (conRecsOk).run as with
  | none => exact does_none h
  | some out =>
    have h' := h
    simp only [conRecsOk] at h'
    split at h'
    · rename_i l
      simp only [Option.some.injEq] at h'
      subst h'
      have hmo : (most : Int) = 1099511627776 := rfl
      have hml : (maxLen : Int) = 9223372036854775807 := rfl
      with_reducible refine does_by h fun Q hQ => ?_
      clear h
      dsimp only [af67, conRecsOk, go_sem, Nat.reduceAdd, Nat.reduceMul, Nat.reduceSub, Nat.reduceBEq, Nat.reduceLeDiff, Nat.reduceEqDiff, ↓dreduceIte, toG, semR_143, semR_214, semR_147, semR_201, semR_211, semR_209, semR_210, semR_185, semR_187, semR_188, semR_192, semR_189, semR_190, tb67_142, conContainsR]
      repeat' first
        | with_reducible refine kon_seq ?_
        | with_reducible refine kon_nil ?_
        | with_reducible refine kon_any ?_ ?_
        | with_reducible exact kon_any_nil
        | with_reducible refine kon_skip ?_
        | with_reducible refine kon_block ?_
        | with_reducible refine kon_ret ?_
        | with_reducible refine kon_exit ?_
        | with_reducible refine kon_past_ret ?_
        | with_reducible refine kon_past_exit ?_
        | with_reducible refine kon_blk_ret ?_
        | with_reducible refine kon_blk_end ?_
        | with_reducible refine kon_blk_exit ?_
        | (with_reducible refine kon_blk_past ?_ ?_
           · decide)
        | with_reducible refine loop_exit ?_
        | with_reducible refine loop_ret ?_
        | with_reducible refine mid_exit ?_
        | with_reducible refine mid_ret ?_
        | ((first | with_reducible refine kon_bin fun R hR => ?_ | with_reducible refine kon_conv fun R hR => ?_)
           dsimp only [go_sem, Nat.reduceAdd, Nat.reduceMul, Nat.reduceSub, Nat.reduceBEq, Nat.reduceLeDiff, Nat.reduceEqDiff, ↓dreduceIte, toG, semR_143, semR_214, semR_147, semR_201, semR_211, semR_209, semR_210, semR_185, semR_187, semR_188, semR_192, semR_189, semR_190, tb67_142, conContainsR]
           try simp (disch := first | omega | (simp only [List.length_set, List.length_append, List.length_cons, List.length_nil, List.length_replicate]; omega)) only [guardP_T, guardP_pos, iteN, rd_set, List.set_set, List.length_set, eta_fact, eta_rumor, eta_doubt, eta_item, eta_rec, eta_due, look, look0, rd_toNat, wrap64, Int.toNat_natCast, Nat.zero_add, List.take_length, List.drop_zero, and_self, setB_len, true_and, and_true]
           with_reducible refine hR _ ?_
           clear hR R)
        | (with_reducible refine kon_ins fun R hR => ?_
           dsimp only [go_sem, Nat.reduceAdd, Nat.reduceMul, Nat.reduceSub, Nat.reduceBEq, Nat.reduceLeDiff, Nat.reduceEqDiff, ↓dreduceIte, toG, semR_143, semR_214, semR_147, semR_201, semR_211, semR_209, semR_210, semR_185, semR_187, semR_188, semR_192, semR_189, semR_190, tb67_142, conContainsR]
           first
             | with_reducible refine hR _ ?_
             | (simp (disch := first | omega | (simp only [List.length_set, List.length_append, List.length_cons, List.length_nil, List.length_replicate]; omega)) only [guardP_T, guardP_pos, iteN, rd_set, List.set_set, List.length_set, eta_fact, eta_rumor, eta_doubt, eta_item, eta_rec, eta_due, look, look0, rd_toNat, wrap64, Int.toNat_natCast, Nat.zero_add, List.take_length, List.drop_zero, and_self, setB_len, true_and, and_true]
                try dsimp only [go_sem, Nat.reduceAdd, Nat.reduceMul, Nat.reduceSub, Nat.reduceBEq, Nat.reduceLeDiff, Nat.reduceEqDiff, ↓dreduceIte, toG, semR_143, semR_214, semR_147, semR_201, semR_211, semR_209, semR_210, semR_185, semR_187, semR_188, semR_192, semR_189, semR_190, tb67_142, conContainsR]
                try simp (disch := first | omega | (simp only [List.length_set, List.length_append, List.length_cons, List.length_nil, List.length_replicate]; omega)) only [guardP_T, guardP_pos, iteN, rd_set, List.set_set, List.length_set, eta_fact, eta_rumor, eta_doubt, eta_item, eta_rec, eta_due, look, look0, rd_toNat, wrap64, Int.toNat_natCast, Nat.zero_add, List.take_length, List.drop_zero, and_self, setB_len, true_and, and_true]
                with_reducible refine hR _ ?_)
           clear hR R)
        | (with_reducible refine kon_g_run ?_ ?_
           · dsimp only [nth] <;> with_reducible rfl)
        | (with_reducible refine kon_g_skip ?_ ?_
           · dsimp only [nth, not_t', not_f'] <;> with_reducible rfl
           dsimp only [go_sem])
        | (with_reducible refine kon_g_undef ?_ ?_
           · dsimp only [nth] <;> with_reducible rfl
           dsimp only [go_sem])
        | (with_reducible refine kon_g fun R hR => ?_
           dsimp only [go_sem, Nat.reduceAdd, Nat.reduceMul, Nat.reduceSub, Nat.reduceBEq, Nat.reduceLeDiff, Nat.reduceEqDiff, ↓dreduceIte, toG, semR_143, semR_214, semR_147, semR_201, semR_211, semR_209, semR_210, semR_185, semR_187, semR_188, semR_192, semR_189, semR_190, tb67_142, conContainsR]
           split <;> (rename_i hb; with_reducible refine hR _ ?_; clear hR R; try simp only [hb]; try simp only [decide_eq_true_eq, decide_eq_false_iff_not, beq_iff_eq, beq_eq_false_iff_ne, bne_iff_ne, bne_eq_false_iff_eq, Bool.not_eq_true, Bool.not_eq_false, Bool.not_eq_eq_eq_not, Bool.not_true, Bool.not_false, ne_eq, Int.not_lt, Int.not_le, eq_self, not_true_eq_false, not_false_eq_true, decide_true, decide_false, Bool.and_eq_true, Bool.or_eq_true, Bool.and_eq_false_iff, Bool.or_eq_false_iff, gt_iff_lt, ge_iff_le, Bool.false_eq_true, Bool.true_eq_false, reduceCtorEq, or_false, false_or, or_true, true_or, false_and, and_false] at hb; try (exfalso; omega)))
        | (with_reducible refine kon_cond fun R1 R2 h1 h2 => ?_
           dsimp only [go_sem]
           first
             | (with_reducible refine h1 ?_; clear h1 h2 R1 R2)
             | (with_reducible refine h2 ?_; clear h1 h2 R1 R2)
             | ((split <;> rename_i hb <;> first
                 | (with_reducible refine h1 ?_; clear h1 h2 R1 R2; try simp only [hb])
                 | (with_reducible refine h2 ?_; clear h1 h2 R1 R2; try simp only [hb])) <;> (try simp only [decide_eq_true_eq, decide_eq_false_iff_not, beq_iff_eq, beq_eq_false_iff_ne, bne_iff_ne, bne_eq_false_iff_eq, Bool.not_eq_true, Bool.not_eq_false, Bool.not_eq_eq_eq_not, Bool.not_true, Bool.not_false, ne_eq, Int.not_lt, Int.not_le, eq_self, not_true_eq_false, not_false_eq_true, decide_true, decide_false, Bool.and_eq_true, Bool.or_eq_true, Bool.and_eq_false_iff, Bool.or_eq_false_iff, gt_iff_lt, ge_iff_le, Bool.false_eq_true, Bool.true_eq_false, reduceCtorEq, or_false, false_or, or_true, true_or, false_and, and_false] at hb; try (exfalso; omega))))
      all_goals first
        | (dsimp only [kon]
           with_reducible refine hQ _ _ _ ?_
           dsimp only [kon, endQ, af67, conRecsOk, go_sem, Nat.reduceAdd, Nat.reduceMul, Nat.reduceSub, Nat.reduceBEq, Nat.reduceLeDiff, Nat.reduceEqDiff, ↓dreduceIte, toG, semR_143, semR_214, semR_147, semR_201, semR_211, semR_209, semR_210, semR_185, semR_187, semR_188, semR_192, semR_189, semR_190, tb67_142, conContainsR]
           try simp (disch := first | omega | (simp only [List.length_set, List.length_append, List.length_cons, List.length_nil, List.length_replicate]; omega)) only [guardP_T, guardP_pos, iteN, rd_set, List.set_set, List.length_set, eta_fact, eta_rumor, eta_doubt, eta_item, eta_rec, eta_due, look, look0, rd_toNat, wrap64, Int.toNat_natCast, Nat.zero_add, List.take_length, List.drop_zero, and_self, setB_len, true_and, and_true]
           try dsimp only [go_sem, Nat.reduceAdd, Nat.reduceMul, Nat.reduceSub, Nat.reduceBEq, Nat.reduceLeDiff, Nat.reduceEqDiff, ↓dreduceIte, toG, semR_143, semR_214, semR_147, semR_201, semR_211, semR_209, semR_210, semR_185, semR_187, semR_188, semR_192, semR_189, semR_190, tb67_142, conContainsR])
        | skip
      all_goals try first
        | omega
        | (simp; done)
        | (simp; omega)
      all_goals first
        | (simp [recsOk, List.any_eq_not_all_not, notOk]; try omega)
    · simp at h'

def tb70 : Tab := fun f => match f with
  | 61 => some conRecOk
  | _ => none

theorem tb70_61 : tb70 61 = some conRecOk := rfl

-- loop.example/g00678/spec.l12Recs hows []
def lp70_0 : AC := .seq (.seq (.reg [⟨some 7, .mv (.t 3), none⟩,
        ⟨some 8, .mv (.t 0), none⟩,
        ⟨some 9, .len (.t 8), none⟩,
        ⟨some 10, .bin .lss (.t 7) (.t 9), none⟩])
      (.cond (.t 10)
        (.skip)
        (.exit 0)))
      (.seq (.block 1 (.seq (.reg [⟨some 13, .mv (.t 0), none⟩,
          ⟨some 14, .mv (.t 3), none⟩,
          ⟨some 15, .ia .rcd (.t 13) (.t 14), none⟩,
          ⟨some 16, .ld true 6 (.t 15), none⟩,
          ⟨some 17, .call 61 [(.t 16)], none⟩,
          ⟨some 18, .un .not (.t 17), none⟩])
        (.cond (.t 18)
          (.seq (.reg [⟨some 2, .mv (.b false), none⟩])
          (.ret))
          (.skip))))
      (.reg [⟨some 11, .mv (.t 3), none⟩,
        ⟨some 12, .bin .add (.t 11) (.i 1), none⟩,
        ⟨some 3, .mv (.t 12), none⟩]))
def af70 : AF := ⟨19, [.t 2],
  .seq (.reg [⟨some 2, .mv (.b false), none⟩])
  (.seq (.seq (.reg [⟨some 4, .mv (.t 0), none⟩,
    ⟨some 5, .len (.t 4), none⟩,
    ⟨some 6, .bin .gtr (.t 5) (.i 400), none⟩])
  (.cond (.t 6)
    (.seq (.reg [⟨some 2, .mv (.b false), none⟩])
    (.ret))
    (.skip)))
  (.seq (.seq (.reg [⟨some 3, .mv (.i 0), none⟩])
  (.block 0 (.loop lp70_0)))
  (.seq (.reg [⟨some 2, .mv (.b true), none⟩])
  (.ret))))⟩

set_option maxHeartbeats 4000000 in
theorem does70 (as : List AV) (hok : ok 64 as) : Does tb70 af70 conRecsOk as := by
  cases h : (conRecsOk).run as with
  | none => exact does_none h
  | some out =>
    have h' := h
    simp only [conRecsOk] at h'
    split at h'
    · rename_i l
      simp only [ok] at hok
      obtain ⟨⟨hlen, _⟩, _⟩ := hok
      simp only [Option.some.injEq] at h'
      subst h'
      have hmo : (most : Int) = 1099511627776 := rfl
      have hml : (maxLen : Int) = 9223372036854775807 := rfl
      with_reducible refine does_by h fun Q hQ => ?_
      clear h
      dsimp only [af70, conRecsOk, go_sem, Nat.reduceAdd, Nat.reduceMul, Nat.reduceSub, Nat.reduceBEq, Nat.reduceLeDiff, Nat.reduceEqDiff, ↓dreduceIte, toG, tb70_61, conRecOk]
      repeat' first
        | with_reducible refine kon_seq ?_
        | with_reducible refine kon_nil ?_
        | with_reducible refine kon_any ?_ ?_
        | with_reducible exact kon_any_nil
        | with_reducible refine kon_skip ?_
        | with_reducible refine kon_block ?_
        | with_reducible refine kon_ret ?_
        | with_reducible refine kon_exit ?_
        | with_reducible refine kon_past_ret ?_
        | with_reducible refine kon_past_exit ?_
        | with_reducible refine kon_blk_ret ?_
        | with_reducible refine kon_blk_end ?_
        | with_reducible refine kon_blk_exit ?_
        | (with_reducible refine kon_blk_past ?_ ?_
           · decide)
        | with_reducible refine loop_exit ?_
        | with_reducible refine loop_ret ?_
        | with_reducible refine mid_exit ?_
        | with_reducible refine mid_ret ?_
        | ((first | with_reducible refine kon_bin fun R hR => ?_ | with_reducible refine kon_conv fun R hR => ?_)
           dsimp only [go_sem, Nat.reduceAdd, Nat.reduceMul, Nat.reduceSub, Nat.reduceBEq, Nat.reduceLeDiff, Nat.reduceEqDiff, ↓dreduceIte, toG, tb70_61, conRecOk]
           try simp (disch := first | omega | (simp only [List.length_set, List.length_append, List.length_cons, List.length_nil, List.length_replicate]; omega)) only [guardP_T, guardP_pos, iteN, rd_set, List.set_set, List.length_set, eta_fact, eta_rumor, eta_doubt, eta_item, eta_rec, eta_due, look, look0, rd_toNat, wrap64, Int.toNat_natCast, Nat.zero_add, List.take_length, List.drop_zero, and_self, setB_len, true_and, and_true]
           with_reducible refine hR _ ?_
           clear hR R)
        | (with_reducible refine kon_ins fun R hR => ?_
           dsimp only [go_sem, Nat.reduceAdd, Nat.reduceMul, Nat.reduceSub, Nat.reduceBEq, Nat.reduceLeDiff, Nat.reduceEqDiff, ↓dreduceIte, toG, tb70_61, conRecOk]
           first
             | with_reducible refine hR _ ?_
             | (simp (disch := first | omega | (simp only [List.length_set, List.length_append, List.length_cons, List.length_nil, List.length_replicate]; omega)) only [guardP_T, guardP_pos, iteN, rd_set, List.set_set, List.length_set, eta_fact, eta_rumor, eta_doubt, eta_item, eta_rec, eta_due, look, look0, rd_toNat, wrap64, Int.toNat_natCast, Nat.zero_add, List.take_length, List.drop_zero, and_self, setB_len, true_and, and_true]
                try dsimp only [go_sem, Nat.reduceAdd, Nat.reduceMul, Nat.reduceSub, Nat.reduceBEq, Nat.reduceLeDiff, Nat.reduceEqDiff, ↓dreduceIte, toG, tb70_61, conRecOk]
                try simp (disch := first | omega | (simp only [List.length_set, List.length_append, List.length_cons, List.length_nil, List.length_replicate]; omega)) only [guardP_T, guardP_pos, iteN, rd_set, List.set_set, List.length_set, eta_fact, eta_rumor, eta_doubt, eta_item, eta_rec, eta_due, look, look0, rd_toNat, wrap64, Int.toNat_natCast, Nat.zero_add, List.take_length, List.drop_zero, and_self, setB_len, true_and, and_true]
                with_reducible refine hR _ ?_)
           clear hR R)
        | (with_reducible refine kon_g_run ?_ ?_
           · dsimp only [nth] <;> with_reducible rfl)
        | (with_reducible refine kon_g_skip ?_ ?_
           · dsimp only [nth, not_t', not_f'] <;> with_reducible rfl
           dsimp only [go_sem])
        | (with_reducible refine kon_g_undef ?_ ?_
           · dsimp only [nth] <;> with_reducible rfl
           dsimp only [go_sem])
        | (with_reducible refine kon_g fun R hR => ?_
           dsimp only [go_sem, Nat.reduceAdd, Nat.reduceMul, Nat.reduceSub, Nat.reduceBEq, Nat.reduceLeDiff, Nat.reduceEqDiff, ↓dreduceIte, toG, tb70_61, conRecOk]
           split <;> (rename_i hb; with_reducible refine hR _ ?_; clear hR R; try simp only [hb]; try simp only [decide_eq_true_eq, decide_eq_false_iff_not, beq_iff_eq, beq_eq_false_iff_ne, bne_iff_ne, bne_eq_false_iff_eq, Bool.not_eq_true, Bool.not_eq_false, Bool.not_eq_eq_eq_not, Bool.not_true, Bool.not_false, ne_eq, Int.not_lt, Int.not_le, eq_self, not_true_eq_false, not_false_eq_true, decide_true, decide_false, Bool.and_eq_true, Bool.or_eq_true, Bool.and_eq_false_iff, Bool.or_eq_false_iff, gt_iff_lt, ge_iff_le, Bool.false_eq_true, Bool.true_eq_false, reduceCtorEq, or_false, false_or, or_true, true_or, false_and, and_false] at hb; try (exfalso; omega)))
        | (with_reducible refine kon_cond fun R1 R2 h1 h2 => ?_
           dsimp only [go_sem]
           first
             | (with_reducible refine h1 ?_; clear h1 h2 R1 R2)
             | (with_reducible refine h2 ?_; clear h1 h2 R1 R2)
             | ((split <;> rename_i hb <;> first
                 | (with_reducible refine h1 ?_; clear h1 h2 R1 R2; try simp only [hb])
                 | (with_reducible refine h2 ?_; clear h1 h2 R1 R2; try simp only [hb])) <;> (try simp only [decide_eq_true_eq, decide_eq_false_iff_not, beq_iff_eq, beq_eq_false_iff_ne, bne_iff_ne, bne_eq_false_iff_eq, Bool.not_eq_true, Bool.not_eq_false, Bool.not_eq_eq_eq_not, Bool.not_true, Bool.not_false, ne_eq, Int.not_lt, Int.not_le, eq_self, not_true_eq_false, not_false_eq_true, decide_true, decide_false, Bool.and_eq_true, Bool.or_eq_true, Bool.and_eq_false_iff, Bool.or_eq_false_iff, gt_iff_lt, ge_iff_le, Bool.false_eq_true, Bool.true_eq_false, reduceCtorEq, or_false, false_or, or_true, true_or, false_and, and_false] at hb; try (exfalso; omega))))
        | (with_reducible refine kon_rounds (a := lp70_0) [0, 3] (fun n9 s9 => ∃ (i : Int), ((0 ≤ i) ∧ (i ≤ l.length) ∧ (l.all recOk = (l.drop i.toNat).all recOk)) ∧ n9 = (l.length - i).toNat ∧ s9.m = [] ∧ s9.t = [.sl .rcd l, nth s9.t 1, nth s9.t 2, .int .i64 i, nth s9.t 4, nth s9.t 5, nth s9.t 6, nth s9.t 7, nth s9.t 8, nth s9.t 9, nth s9.t 10, nth s9.t 11, nth s9.t 12, nth s9.t 13, nth s9.t 14, nth s9.t 15, nth s9.t 16, nth s9.t 17, nth s9.t 18]) ?_ ?_
           all_goals first
             | (rintro n9 ⟨t9, m9⟩ ⟨i, ⟨hI0, hI1, hI2⟩, rfl, hm9, ht9⟩
                dsimp only at hm9 ht9
                subst hm9
                rw [ht9]
                clear ht9
                dsimp only [lp70_0])
             | (dsimp only [go_sem, Nat.reduceAdd, Nat.reduceMul, Nat.reduceSub, Nat.reduceBEq, Nat.reduceLeDiff, Nat.reduceEqDiff, ↓dreduceIte, toG, tb70_61, conRecOk]
                refine ⟨_, _, ⟨?_, ?_, ?_⟩, rfl, rfl, rfl⟩))
        | (with_reducible refine loop_again (keep := [0, 3]) ?_
           dsimp only [go_sem, Nat.reduceAdd, Nat.reduceMul, Nat.reduceSub, Nat.reduceBEq, Nat.reduceLeDiff, Nat.reduceEqDiff, ↓dreduceIte, toG, tb70_61, conRecOk]
           refine ⟨_, ?_, _, ⟨?_, ?_, ?_⟩, rfl, rfl, rfl⟩)
      all_goals first
        | (dsimp only [kon]
           with_reducible refine hQ _ _ _ ?_
           dsimp only [kon, endQ, af70, conRecsOk, go_sem, Nat.reduceAdd, Nat.reduceMul, Nat.reduceSub, Nat.reduceBEq, Nat.reduceLeDiff, Nat.reduceEqDiff, ↓dreduceIte, toG, tb70_61, conRecOk]
           try simp (disch := first | omega | (simp only [List.length_set, List.length_append, List.length_cons, List.length_nil, List.length_replicate]; omega)) only [guardP_T, guardP_pos, iteN, rd_set, List.set_set, List.length_set, eta_fact, eta_rumor, eta_doubt, eta_item, eta_rec, eta_due, look, look0, rd_toNat, wrap64, Int.toNat_natCast, Nat.zero_add, List.take_length, List.drop_zero, and_self, setB_len, true_and, and_true]
           try dsimp only [go_sem, Nat.reduceAdd, Nat.reduceMul, Nat.reduceSub, Nat.reduceBEq, Nat.reduceLeDiff, Nat.reduceEqDiff, ↓dreduceIte, toG, tb70_61, conRecOk])
        | skip
      all_goals try first
        | omega
        | (simp; done)
        | (simp; omega)
      all_goals first
        | (rw [hI2, drop_rd (by omega) (by omega), List.all_cons]
           simp_all
           done)
        | (simp only [recsOk, hI2]
           rw [drop_rd (by omega) (by omega), List.all_cons]
           simp_all
           done)
        | (simp only [recsOk, hI2]
           rw [drop_all (by omega), decide_eq_true (by omega)]
           rfl)
        | (simp only [recsOk]
           rw [decide_eq_false (by omega)]
           rfl)
    · simp at h'

def conLast : Con := ⟨[.imm .rcd, .v, .v], .v, fun as => match as with
  | [.sl .rcd l, .int .i64 i, .int .i64 n] => guardP (0 ≤ i ∧ i ≤ l.length) (some (.int .i64 (lastI (lifeP n) l i.toNat), []))
  | _ => none⟩

def livesB (l : List Rec) (i : Int) (n : Int) : Bool := decide (0 ≤ lastI (lifeP n) l i.toNat) && (rd l (lastI (lifeP n) l i.toNat)).kind == 1

def conLives : Con := ⟨[.imm .rcd, .v, .v], .v, fun as => match as with
  | [.sl .rcd l, .int .i64 i, .int .i64 n] => guardP (0 ≤ i ∧ i ≤ l.length) (some (.bool (livesB l i n), []))
  | _ => none⟩

def tb193 : Tab := fun f => match f with
  | 146 => some conLastOf
  | _ => none

theorem tb193_146 : tb193 146 = some conLastOf := rfl

-- loop.example/g00678/impl.lifeOf hows []
def af193 : AF := ⟨11, [.t 6],
  .seq (.reg [⟨some 5, .box (.t 2), none⟩,
    ⟨some 6, .mv (.i 0), none⟩])
  (.seq (.reg [⟨some 7, .mv (.t 0), none⟩,
    ⟨some 8, .mv (.t 1), none⟩,
    ⟨some 9, .mf 214 [(.t 5)], none⟩,
    ⟨some 10, .call 146 [(.t 7), (.t 8), (.t 9)], none⟩,
    ⟨some 6, .mv (.t 10), none⟩])
  (.ret))⟩

set_option maxHeartbeats 4000000 in
theorem does193 (as : List AV) (hok : ok 64 as) : Does tb193 af193 conLast as := by
  cases h : (conLast).run as with
  | none => exact does_none h
  | some out =>
    have h' := h
    simp only [conLast] at h'
    split at h'
    · rename_i l i n
      by_cases hp : 0 ≤ i ∧ i ≤ l.length
      case neg => simp [guardP, hp] at h'
      rw [guardP_pos hp] at h'
      obtain ⟨hp1, hp2⟩ := hp
      simp only [ok] at hok
      obtain ⟨⟨hlen, _⟩, _⟩ := hok
      simp only [Option.some.injEq] at h'
      subst h'
      have hmo : (most : Int) = 1099511627776 := rfl
      have hml : (maxLen : Int) = 9223372036854775807 := rfl
      with_reducible refine does_by h fun Q hQ => ?_
      clear h
      dsimp only [af193, conLast, go_sem, Nat.reduceAdd, Nat.reduceMul, Nat.reduceSub, Nat.reduceBEq, Nat.reduceLeDiff, Nat.reduceEqDiff, ↓dreduceIte, toG, semR_143, semR_214, semR_147, semR_201, semR_211, semR_209, semR_210, semR_185, semR_187, semR_188, semR_192, semR_189, semR_190, tb193_146, conLastOf]
      repeat' first
        | with_reducible refine kon_seq ?_
        | with_reducible refine kon_nil ?_
        | with_reducible refine kon_any ?_ ?_
        | with_reducible exact kon_any_nil
        | with_reducible refine kon_skip ?_
        | with_reducible refine kon_block ?_
        | with_reducible refine kon_ret ?_
        | with_reducible refine kon_exit ?_
        | with_reducible refine kon_past_ret ?_
        | with_reducible refine kon_past_exit ?_
        | with_reducible refine kon_blk_ret ?_
        | with_reducible refine kon_blk_end ?_
        | with_reducible refine kon_blk_exit ?_
        | (with_reducible refine kon_blk_past ?_ ?_
           · decide)
        | with_reducible refine loop_exit ?_
        | with_reducible refine loop_ret ?_
        | with_reducible refine mid_exit ?_
        | with_reducible refine mid_ret ?_
        | ((first | with_reducible refine kon_bin fun R hR => ?_ | with_reducible refine kon_conv fun R hR => ?_)
           dsimp only [go_sem, Nat.reduceAdd, Nat.reduceMul, Nat.reduceSub, Nat.reduceBEq, Nat.reduceLeDiff, Nat.reduceEqDiff, ↓dreduceIte, toG, semR_143, semR_214, semR_147, semR_201, semR_211, semR_209, semR_210, semR_185, semR_187, semR_188, semR_192, semR_189, semR_190, tb193_146, conLastOf]
           try simp (disch := first | omega | (simp only [List.length_set, List.length_append, List.length_cons, List.length_nil, List.length_replicate]; omega)) only [guardP_T, guardP_pos, iteN, rd_set, List.set_set, List.length_set, eta_fact, eta_rumor, eta_doubt, eta_item, eta_rec, eta_due, look, look0, rd_toNat, wrap64, Int.toNat_natCast, Nat.zero_add, List.take_length, List.drop_zero, and_self, setB_len, true_and, and_true]
           with_reducible refine hR _ ?_
           clear hR R)
        | (with_reducible refine kon_ins fun R hR => ?_
           dsimp only [go_sem, Nat.reduceAdd, Nat.reduceMul, Nat.reduceSub, Nat.reduceBEq, Nat.reduceLeDiff, Nat.reduceEqDiff, ↓dreduceIte, toG, semR_143, semR_214, semR_147, semR_201, semR_211, semR_209, semR_210, semR_185, semR_187, semR_188, semR_192, semR_189, semR_190, tb193_146, conLastOf]
           first
             | with_reducible refine hR _ ?_
             | (simp (disch := first | omega | (simp only [List.length_set, List.length_append, List.length_cons, List.length_nil, List.length_replicate]; omega)) only [guardP_T, guardP_pos, iteN, rd_set, List.set_set, List.length_set, eta_fact, eta_rumor, eta_doubt, eta_item, eta_rec, eta_due, look, look0, rd_toNat, wrap64, Int.toNat_natCast, Nat.zero_add, List.take_length, List.drop_zero, and_self, setB_len, true_and, and_true]
                try dsimp only [go_sem, Nat.reduceAdd, Nat.reduceMul, Nat.reduceSub, Nat.reduceBEq, Nat.reduceLeDiff, Nat.reduceEqDiff, ↓dreduceIte, toG, semR_143, semR_214, semR_147, semR_201, semR_211, semR_209, semR_210, semR_185, semR_187, semR_188, semR_192, semR_189, semR_190, tb193_146, conLastOf]
                try simp (disch := first | omega | (simp only [List.length_set, List.length_append, List.length_cons, List.length_nil, List.length_replicate]; omega)) only [guardP_T, guardP_pos, iteN, rd_set, List.set_set, List.length_set, eta_fact, eta_rumor, eta_doubt, eta_item, eta_rec, eta_due, look, look0, rd_toNat, wrap64, Int.toNat_natCast, Nat.zero_add, List.take_length, List.drop_zero, and_self, setB_len, true_and, and_true]
                with_reducible refine hR _ ?_)
           clear hR R)
        | (with_reducible refine kon_g_run ?_ ?_
           · dsimp only [nth] <;> with_reducible rfl)
        | (with_reducible refine kon_g_skip ?_ ?_
           · dsimp only [nth, not_t', not_f'] <;> with_reducible rfl
           dsimp only [go_sem])
        | (with_reducible refine kon_g_undef ?_ ?_
           · dsimp only [nth] <;> with_reducible rfl
           dsimp only [go_sem])
        | (with_reducible refine kon_g fun R hR => ?_
           dsimp only [go_sem, Nat.reduceAdd, Nat.reduceMul, Nat.reduceSub, Nat.reduceBEq, Nat.reduceLeDiff, Nat.reduceEqDiff, ↓dreduceIte, toG, semR_143, semR_214, semR_147, semR_201, semR_211, semR_209, semR_210, semR_185, semR_187, semR_188, semR_192, semR_189, semR_190, tb193_146, conLastOf]
           split <;> (rename_i hb; with_reducible refine hR _ ?_; clear hR R; try simp only [hb]; try simp only [decide_eq_true_eq, decide_eq_false_iff_not, beq_iff_eq, beq_eq_false_iff_ne, bne_iff_ne, bne_eq_false_iff_eq, Bool.not_eq_true, Bool.not_eq_false, Bool.not_eq_eq_eq_not, Bool.not_true, Bool.not_false, ne_eq, Int.not_lt, Int.not_le, eq_self, not_true_eq_false, not_false_eq_true, decide_true, decide_false, Bool.and_eq_true, Bool.or_eq_true, Bool.and_eq_false_iff, Bool.or_eq_false_iff, gt_iff_lt, ge_iff_le, Bool.false_eq_true, Bool.true_eq_false, reduceCtorEq, or_false, false_or, or_true, true_or, false_and, and_false] at hb; try (exfalso; omega)))
        | (with_reducible refine kon_cond fun R1 R2 h1 h2 => ?_
           dsimp only [go_sem]
           first
             | (with_reducible refine h1 ?_; clear h1 h2 R1 R2)
             | (with_reducible refine h2 ?_; clear h1 h2 R1 R2)
             | ((split <;> rename_i hb <;> first
                 | (with_reducible refine h1 ?_; clear h1 h2 R1 R2; try simp only [hb])
                 | (with_reducible refine h2 ?_; clear h1 h2 R1 R2; try simp only [hb])) <;> (try simp only [decide_eq_true_eq, decide_eq_false_iff_not, beq_iff_eq, beq_eq_false_iff_ne, bne_iff_ne, bne_eq_false_iff_eq, Bool.not_eq_true, Bool.not_eq_false, Bool.not_eq_eq_eq_not, Bool.not_true, Bool.not_false, ne_eq, Int.not_lt, Int.not_le, eq_self, not_true_eq_false, not_false_eq_true, decide_true, decide_false, Bool.and_eq_true, Bool.or_eq_true, Bool.and_eq_false_iff, Bool.or_eq_false_iff, gt_iff_lt, ge_iff_le, Bool.false_eq_true, Bool.true_eq_false, reduceCtorEq, or_false, false_or, or_true, true_or, false_and, and_false] at hb; try (exfalso; omega))))
      all_goals first
        | (dsimp only [kon]
           with_reducible refine hQ _ _ _ ?_
           dsimp only [kon, endQ, af193, conLast, go_sem, Nat.reduceAdd, Nat.reduceMul, Nat.reduceSub, Nat.reduceBEq, Nat.reduceLeDiff, Nat.reduceEqDiff, ↓dreduceIte, toG, semR_143, semR_214, semR_147, semR_201, semR_211, semR_209, semR_210, semR_185, semR_187, semR_188, semR_192, semR_189, semR_190, tb193_146, conLastOf]
           try simp (disch := first | omega | (simp only [List.length_set, List.length_append, List.length_cons, List.length_nil, List.length_replicate]; omega)) only [guardP_T, guardP_pos, iteN, rd_set, List.set_set, List.length_set, eta_fact, eta_rumor, eta_doubt, eta_item, eta_rec, eta_due, look, look0, rd_toNat, wrap64, Int.toNat_natCast, Nat.zero_add, List.take_length, List.drop_zero, and_self, setB_len, true_and, and_true]
           try dsimp only [go_sem, Nat.reduceAdd, Nat.reduceMul, Nat.reduceSub, Nat.reduceBEq, Nat.reduceLeDiff, Nat.reduceEqDiff, ↓dreduceIte, toG, semR_143, semR_214, semR_147, semR_201, semR_211, semR_209, semR_210, semR_185, semR_187, semR_188, semR_192, semR_189, semR_190, tb193_146, conLastOf])
        | skip
      all_goals try first
        | omega
        | (simp; done)
        | (simp; omega)
      all_goals rfl
    · simp at h'

-- loop.example/g00678/spec.l12Last hows []
def lp128_0 : AC := .seq (.seq (.reg [⟨some 10, .mv (.t 7), none⟩,
        ⟨some 11, .bin .geq (.t 10) (.i 0), none⟩])
      (.cond (.t 11)
        (.skip)
        (.exit 0)))
      (.seq (.block 1 (.seq (.reg [⟨some 14, .mv (.t 0), none⟩,
          ⟨some 15, .mv (.t 7), none⟩,
          ⟨some 16, .ia .rcd (.t 14) (.t 15), none⟩,
          ⟨some 17, .fa 1 (.t 16), none⟩,
          ⟨some 18, .ld false 1 (.t 17), none⟩,
          ⟨some 19, .mv (.t 2), none⟩,
          ⟨some 20, .bin .eql (.t 18) (.t 19), none⟩,
          ⟨some 21, .mv (.t 20), none⟩,
          ⟨some 22, .mv (.t 0), some (21, true)⟩,
          ⟨some 23, .mv (.t 7), some (21, true)⟩,
          ⟨some 24, .ia .rcd (.t 22) (.t 23), some (21, true)⟩,
          ⟨some 25, .fa 2 (.t 24), some (21, true)⟩,
          ⟨some 26, .ld false 1 (.t 25), some (21, true)⟩,
          ⟨some 27, .bin .eql (.t 26) (.i 1), some (21, true)⟩,
          ⟨some 28, .mv (.t 27), some (21, true)⟩,
          ⟨some 29, .mv (.t 0), some (28, false)⟩,
          ⟨some 30, .mv (.t 7), some (28, false)⟩,
          ⟨some 31, .ia .rcd (.t 29) (.t 30), some (28, false)⟩,
          ⟨some 32, .fa 2 (.t 31), some (28, false)⟩,
          ⟨some 33, .ld false 1 (.t 32), some (28, false)⟩,
          ⟨some 34, .bin .eql (.t 33) (.i 2), some (28, false)⟩,
          ⟨some 35, .pick (.t 28) (.b true) (.t 34), some (21, true)⟩,
          ⟨some 36, .pick (.t 21) (.t 35) (.b false), none⟩])
        (.cond (.t 36)
          (.seq (.reg [⟨some 37, .mv (.t 7), none⟩,
            ⟨some 6, .mv (.t 37), none⟩])
          (.ret))
          (.skip))))
      (.reg [⟨some 12, .mv (.t 7), none⟩,
        ⟨some 13, .bin .sub (.t 12) (.i 1), none⟩,
        ⟨some 7, .mv (.t 13), none⟩]))
def af128 : AF := ⟨38, [.t 6],
  .seq (.reg [⟨some 6, .mv (.i 0), none⟩])
  (.seq (.seq (.reg [⟨some 8, .mv (.t 1), none⟩,
    ⟨some 9, .bin .sub (.t 8) (.i 1), none⟩,
    ⟨some 7, .mv (.t 9), none⟩])
  (.block 0 (.loop lp128_0)))
  (.seq (.reg [⟨some 6, .mv (.i (-1)), none⟩])
  (.ret)))⟩

set_option maxHeartbeats 4000000 in
theorem does128 (as : List AV) (hok : ok 64 as) : Does tbNone af128 conLast as := by
  cases h : (conLast).run as with
  | none => exact does_none h
  | some out =>
    have h' := h
    simp only [conLast] at h'
    split at h'
    · rename_i l i n
      by_cases hp : 0 ≤ i ∧ i ≤ l.length
      case neg => simp [guardP, hp] at h'
      rw [guardP_pos hp] at h'
      obtain ⟨hp1, hp2⟩ := hp
      simp only [ok] at hok
      obtain ⟨⟨hlen, _⟩, _⟩ := hok
      simp only [Option.some.injEq] at h'
      subst h'
      have hmo : (most : Int) = 1099511627776 := rfl
      have hml : (maxLen : Int) = 9223372036854775807 := rfl
      with_reducible refine does_by h fun Q hQ => ?_
      clear h
      dsimp only [af128, conLast, go_sem, Nat.reduceAdd, Nat.reduceMul, Nat.reduceSub, Nat.reduceBEq, Nat.reduceLeDiff, Nat.reduceEqDiff, ↓dreduceIte, toG]
      repeat' first
        | with_reducible refine kon_seq ?_
        | with_reducible refine kon_nil ?_
        | with_reducible refine kon_any ?_ ?_
        | with_reducible exact kon_any_nil
        | with_reducible refine kon_skip ?_
        | with_reducible refine kon_block ?_
        | with_reducible refine kon_ret ?_
        | with_reducible refine kon_exit ?_
        | with_reducible refine kon_past_ret ?_
        | with_reducible refine kon_past_exit ?_
        | with_reducible refine kon_blk_ret ?_
        | with_reducible refine kon_blk_end ?_
        | with_reducible refine kon_blk_exit ?_
        | (with_reducible refine kon_blk_past ?_ ?_
           · decide)
        | with_reducible refine loop_exit ?_
        | with_reducible refine loop_ret ?_
        | with_reducible refine mid_exit ?_
        | with_reducible refine mid_ret ?_
        | ((first | with_reducible refine kon_bin fun R hR => ?_ | with_reducible refine kon_conv fun R hR => ?_)
           dsimp only [go_sem, Nat.reduceAdd, Nat.reduceMul, Nat.reduceSub, Nat.reduceBEq, Nat.reduceLeDiff, Nat.reduceEqDiff, ↓dreduceIte, toG]
           try simp (disch := first | omega | (simp only [List.length_set, List.length_append, List.length_cons, List.length_nil, List.length_replicate]; omega)) only [guardP_T, guardP_pos, iteN, rd_set, List.set_set, List.length_set, eta_fact, eta_rumor, eta_doubt, eta_item, eta_rec, eta_due, look, look0, rd_toNat, wrap64, Int.toNat_natCast, Nat.zero_add, List.take_length, List.drop_zero, and_self, setB_len, true_and, and_true]
           with_reducible refine hR _ ?_
           clear hR R)
        | (with_reducible refine kon_ins fun R hR => ?_
           dsimp only [go_sem, Nat.reduceAdd, Nat.reduceMul, Nat.reduceSub, Nat.reduceBEq, Nat.reduceLeDiff, Nat.reduceEqDiff, ↓dreduceIte, toG]
           first
             | with_reducible refine hR _ ?_
             | (simp (disch := first | omega | (simp only [List.length_set, List.length_append, List.length_cons, List.length_nil, List.length_replicate]; omega)) only [guardP_T, guardP_pos, iteN, rd_set, List.set_set, List.length_set, eta_fact, eta_rumor, eta_doubt, eta_item, eta_rec, eta_due, look, look0, rd_toNat, wrap64, Int.toNat_natCast, Nat.zero_add, List.take_length, List.drop_zero, and_self, setB_len, true_and, and_true]
                try dsimp only [go_sem, Nat.reduceAdd, Nat.reduceMul, Nat.reduceSub, Nat.reduceBEq, Nat.reduceLeDiff, Nat.reduceEqDiff, ↓dreduceIte, toG]
                try simp (disch := first | omega | (simp only [List.length_set, List.length_append, List.length_cons, List.length_nil, List.length_replicate]; omega)) only [guardP_T, guardP_pos, iteN, rd_set, List.set_set, List.length_set, eta_fact, eta_rumor, eta_doubt, eta_item, eta_rec, eta_due, look, look0, rd_toNat, wrap64, Int.toNat_natCast, Nat.zero_add, List.take_length, List.drop_zero, and_self, setB_len, true_and, and_true]
                with_reducible refine hR _ ?_)
           clear hR R)
        | (with_reducible refine kon_g_run ?_ ?_
           · dsimp only [nth] <;> with_reducible rfl)
        | (with_reducible refine kon_g_skip ?_ ?_
           · dsimp only [nth, not_t', not_f'] <;> with_reducible rfl
           dsimp only [go_sem])
        | (with_reducible refine kon_g_undef ?_ ?_
           · dsimp only [nth] <;> with_reducible rfl
           dsimp only [go_sem])
        | (with_reducible refine kon_g fun R hR => ?_
           dsimp only [go_sem, Nat.reduceAdd, Nat.reduceMul, Nat.reduceSub, Nat.reduceBEq, Nat.reduceLeDiff, Nat.reduceEqDiff, ↓dreduceIte, toG]
           split <;> (rename_i hb; with_reducible refine hR _ ?_; clear hR R; try simp only [hb]; try simp only [decide_eq_true_eq, decide_eq_false_iff_not, beq_iff_eq, beq_eq_false_iff_ne, bne_iff_ne, bne_eq_false_iff_eq, Bool.not_eq_true, Bool.not_eq_false, Bool.not_eq_eq_eq_not, Bool.not_true, Bool.not_false, ne_eq, Int.not_lt, Int.not_le, eq_self, not_true_eq_false, not_false_eq_true, decide_true, decide_false, Bool.and_eq_true, Bool.or_eq_true, Bool.and_eq_false_iff, Bool.or_eq_false_iff, gt_iff_lt, ge_iff_le, Bool.false_eq_true, Bool.true_eq_false, reduceCtorEq, or_false, false_or, or_true, true_or, false_and, and_false] at hb; try (exfalso; omega)))
        | (with_reducible refine kon_cond fun R1 R2 h1 h2 => ?_
           dsimp only [go_sem]
           first
             | (with_reducible refine h1 ?_; clear h1 h2 R1 R2)
             | (with_reducible refine h2 ?_; clear h1 h2 R1 R2)
             | ((split <;> rename_i hb <;> first
                 | (with_reducible refine h1 ?_; clear h1 h2 R1 R2; try simp only [hb])
                 | (with_reducible refine h2 ?_; clear h1 h2 R1 R2; try simp only [hb])) <;> (try simp only [decide_eq_true_eq, decide_eq_false_iff_not, beq_iff_eq, beq_eq_false_iff_ne, bne_iff_ne, bne_eq_false_iff_eq, Bool.not_eq_true, Bool.not_eq_false, Bool.not_eq_eq_eq_not, Bool.not_true, Bool.not_false, ne_eq, Int.not_lt, Int.not_le, eq_self, not_true_eq_false, not_false_eq_true, decide_true, decide_false, Bool.and_eq_true, Bool.or_eq_true, Bool.and_eq_false_iff, Bool.or_eq_false_iff, gt_iff_lt, ge_iff_le, Bool.false_eq_true, Bool.true_eq_false, reduceCtorEq, or_false, false_or, or_true, true_or, false_and, and_false] at hb; try (exfalso; omega))))
        | (with_reducible refine kon_rounds (a := lp128_0) [0, 2, 7] (fun n9 s9 => ∃ (k : Int), ((-1 ≤ k) ∧ (k < i) ∧ (lastI (lifeP n) l i.toNat = lastI (lifeP n) l (k + 1).toNat)) ∧ n9 = (k + 1).toNat ∧ s9.m = [] ∧ s9.t = [.sl .rcd l, nth s9.t 1, .int .i64 n, nth s9.t 3, nth s9.t 4, nth s9.t 5, nth s9.t 6, .int .i64 k, nth s9.t 8, nth s9.t 9, nth s9.t 10, nth s9.t 11, nth s9.t 12, nth s9.t 13, nth s9.t 14, nth s9.t 15, nth s9.t 16, nth s9.t 17, nth s9.t 18, nth s9.t 19, nth s9.t 20, nth s9.t 21, nth s9.t 22, nth s9.t 23, nth s9.t 24, nth s9.t 25, nth s9.t 26, nth s9.t 27, nth s9.t 28, nth s9.t 29, nth s9.t 30, nth s9.t 31, nth s9.t 32, nth s9.t 33, nth s9.t 34, nth s9.t 35, nth s9.t 36, nth s9.t 37]) ?_ ?_
           all_goals first
             | (rintro n9 ⟨t9, m9⟩ ⟨k, ⟨hI0, hI1, hI2⟩, rfl, hm9, ht9⟩
                dsimp only at hm9 ht9
                subst hm9
                rw [ht9]
                clear ht9
                dsimp only [lp128_0])
             | (dsimp only [go_sem, Nat.reduceAdd, Nat.reduceMul, Nat.reduceSub, Nat.reduceBEq, Nat.reduceLeDiff, Nat.reduceEqDiff, ↓dreduceIte, toG]
                refine ⟨_, _, ⟨?_, ?_, ?_⟩, rfl, rfl, rfl⟩))
        | (with_reducible refine loop_again (keep := [0, 2, 7]) ?_
           dsimp only [go_sem, Nat.reduceAdd, Nat.reduceMul, Nat.reduceSub, Nat.reduceBEq, Nat.reduceLeDiff, Nat.reduceEqDiff, ↓dreduceIte, toG]
           refine ⟨_, ?_, _, ⟨?_, ?_, ?_⟩, rfl, rfl, rfl⟩)
      all_goals first
        | (dsimp only [kon]
           with_reducible refine hQ _ _ _ ?_
           dsimp only [kon, endQ, af128, conLast, go_sem, Nat.reduceAdd, Nat.reduceMul, Nat.reduceSub, Nat.reduceBEq, Nat.reduceLeDiff, Nat.reduceEqDiff, ↓dreduceIte, toG]
           try simp (disch := first | omega | (simp only [List.length_set, List.length_append, List.length_cons, List.length_nil, List.length_replicate]; omega)) only [guardP_T, guardP_pos, iteN, rd_set, List.set_set, List.length_set, eta_fact, eta_rumor, eta_doubt, eta_item, eta_rec, eta_due, look, look0, rd_toNat, wrap64, Int.toNat_natCast, Nat.zero_add, List.take_length, List.drop_zero, and_self, setB_len, true_and, and_true]
           try dsimp only [go_sem, Nat.reduceAdd, Nat.reduceMul, Nat.reduceSub, Nat.reduceBEq, Nat.reduceLeDiff, Nat.reduceEqDiff, ↓dreduceIte, toG])
        | skip
      all_goals try first
        | omega
        | (simp; done)
        | (simp; omega)
      all_goals first
        | (rw [hI2, lastI_step (by omega)]
           split <;> first
             | rfl
             | (exfalso; simp_all [lifeP]; done)
             | (congr 1; omega))
        | (rw [hI2, show k = -1 by omega]; rfl)
        | (rw [show i - 1 + 1 = i by omega])
    · simp at h'

def tb180 : Tab := fun f => match f with
  | 193 => some conLast
  | _ => none

theorem tb180_193 : tb180 193 = some conLast := rfl

-- loop.example/g00678/impl.lives hows []
def af180 : AF := ⟨22, [.t 6],
  .seq (.reg [⟨some 6, .mv (.b false), none⟩])
  (.seq (.reg [⟨some 8, .mv (.t 0), none⟩,
    ⟨some 9, .mv (.t 1), none⟩,
    ⟨some 10, .mv (.t 2), none⟩,
    ⟨some 11, .call 193 [(.t 8), (.t 9), (.t 10)], none⟩,
    ⟨some 7, .mv (.t 11), none⟩])
  (.seq (.reg [⟨some 12, .mv (.t 7), none⟩,
    ⟨some 13, .bin .geq (.t 12) (.i 0), none⟩,
    ⟨some 14, .mv (.t 13), none⟩,
    ⟨some 15, .mv (.t 0), some (14, true)⟩,
    ⟨some 16, .mv (.t 7), some (14, true)⟩,
    ⟨some 17, .ia .rcd (.t 15) (.t 16), some (14, true)⟩,
    ⟨some 18, .fa 2 (.t 17), some (14, true)⟩,
    ⟨some 19, .ld false 1 (.t 18), some (14, true)⟩,
    ⟨some 20, .bin .eql (.t 19) (.i 1), some (14, true)⟩,
    ⟨some 21, .pick (.t 14) (.t 20) (.b false), none⟩,
    ⟨some 6, .mv (.t 21), none⟩])
  (.ret)))⟩

set_option maxHeartbeats 4000000 in
theorem does180 (as : List AV) (hok : ok 64 as) : Does tb180 af180 conLives as := by
  cases h : (conLives).run as with
  | none => exact does_none h
  | some out =>
    have h' := h
    simp only [conLives] at h'
    split at h'
    · rename_i l i n
      by_cases hp : 0 ≤ i ∧ i ≤ l.length
      case neg => simp [guardP, hp] at h'
      rw [guardP_pos hp] at h'
      obtain ⟨hp1, hp2⟩ := hp
      simp only [ok] at hok
      obtain ⟨⟨hlen, _⟩, _⟩ := hok
      have hlt := lastI_lt (lifeP n) l i.toNat
      have hge := lastI_ge (lifeP n) l i.toNat
      simp only [Option.some.injEq] at h'
      subst h'
      have hmo : (most : Int) = 1099511627776 := rfl
      have hml : (maxLen : Int) = 9223372036854775807 := rfl
      with_reducible refine does_by h fun Q hQ => ?_
      clear h
      dsimp only [af180, conLives, go_sem, Nat.reduceAdd, Nat.reduceMul, Nat.reduceSub, Nat.reduceBEq, Nat.reduceLeDiff, Nat.reduceEqDiff, ↓dreduceIte, toG, tb180_193, conLast]
      repeat' first
        | with_reducible refine kon_seq ?_
        | with_reducible refine kon_nil ?_
        | with_reducible refine kon_any ?_ ?_
        | with_reducible exact kon_any_nil
        | with_reducible refine kon_skip ?_
        | with_reducible refine kon_block ?_
        | with_reducible refine kon_ret ?_
        | with_reducible refine kon_exit ?_
        | with_reducible refine kon_past_ret ?_
        | with_reducible refine kon_past_exit ?_
        | with_reducible refine kon_blk_ret ?_
        | with_reducible refine kon_blk_end ?_
        | with_reducible refine kon_blk_exit ?_
        | (with_reducible refine kon_blk_past ?_ ?_
           · decide)
        | with_reducible refine loop_exit ?_
        | with_reducible refine loop_ret ?_
        | with_reducible refine mid_exit ?_
        | with_reducible refine mid_ret ?_
        | ((first | with_reducible refine kon_bin fun R hR => ?_ | with_reducible refine kon_conv fun R hR => ?_)
           dsimp only [go_sem, Nat.reduceAdd, Nat.reduceMul, Nat.reduceSub, Nat.reduceBEq, Nat.reduceLeDiff, Nat.reduceEqDiff, ↓dreduceIte, toG, tb180_193, conLast]
           try simp (disch := first | omega | (simp only [List.length_set, List.length_append, List.length_cons, List.length_nil, List.length_replicate]; omega)) only [guardP_T, guardP_pos, iteN, rd_set, List.set_set, List.length_set, eta_fact, eta_rumor, eta_doubt, eta_item, eta_rec, eta_due, look, look0, rd_toNat, wrap64, Int.toNat_natCast, Nat.zero_add, List.take_length, List.drop_zero, and_self, setB_len, true_and, and_true]
           with_reducible refine hR _ ?_
           clear hR R)
        | (with_reducible refine kon_ins fun R hR => ?_
           dsimp only [go_sem, Nat.reduceAdd, Nat.reduceMul, Nat.reduceSub, Nat.reduceBEq, Nat.reduceLeDiff, Nat.reduceEqDiff, ↓dreduceIte, toG, tb180_193, conLast]
           first
             | with_reducible refine hR _ ?_
             | (simp (disch := first | omega | (simp only [List.length_set, List.length_append, List.length_cons, List.length_nil, List.length_replicate]; omega)) only [guardP_T, guardP_pos, iteN, rd_set, List.set_set, List.length_set, eta_fact, eta_rumor, eta_doubt, eta_item, eta_rec, eta_due, look, look0, rd_toNat, wrap64, Int.toNat_natCast, Nat.zero_add, List.take_length, List.drop_zero, and_self, setB_len, true_and, and_true]
                try dsimp only [go_sem, Nat.reduceAdd, Nat.reduceMul, Nat.reduceSub, Nat.reduceBEq, Nat.reduceLeDiff, Nat.reduceEqDiff, ↓dreduceIte, toG, tb180_193, conLast]
                try simp (disch := first | omega | (simp only [List.length_set, List.length_append, List.length_cons, List.length_nil, List.length_replicate]; omega)) only [guardP_T, guardP_pos, iteN, rd_set, List.set_set, List.length_set, eta_fact, eta_rumor, eta_doubt, eta_item, eta_rec, eta_due, look, look0, rd_toNat, wrap64, Int.toNat_natCast, Nat.zero_add, List.take_length, List.drop_zero, and_self, setB_len, true_and, and_true]
                with_reducible refine hR _ ?_)
           clear hR R)
        | (with_reducible refine kon_g_run ?_ ?_
           · dsimp only [nth] <;> with_reducible rfl)
        | (with_reducible refine kon_g_skip ?_ ?_
           · dsimp only [nth, not_t', not_f'] <;> with_reducible rfl
           dsimp only [go_sem])
        | (with_reducible refine kon_g_undef ?_ ?_
           · dsimp only [nth] <;> with_reducible rfl
           dsimp only [go_sem])
        | (with_reducible refine kon_g fun R hR => ?_
           dsimp only [go_sem, Nat.reduceAdd, Nat.reduceMul, Nat.reduceSub, Nat.reduceBEq, Nat.reduceLeDiff, Nat.reduceEqDiff, ↓dreduceIte, toG, tb180_193, conLast]
           split <;> (rename_i hb; with_reducible refine hR _ ?_; clear hR R; try simp only [hb]; try simp only [decide_eq_true_eq, decide_eq_false_iff_not, beq_iff_eq, beq_eq_false_iff_ne, bne_iff_ne, bne_eq_false_iff_eq, Bool.not_eq_true, Bool.not_eq_false, Bool.not_eq_eq_eq_not, Bool.not_true, Bool.not_false, ne_eq, Int.not_lt, Int.not_le, eq_self, not_true_eq_false, not_false_eq_true, decide_true, decide_false, Bool.and_eq_true, Bool.or_eq_true, Bool.and_eq_false_iff, Bool.or_eq_false_iff, gt_iff_lt, ge_iff_le, Bool.false_eq_true, Bool.true_eq_false, reduceCtorEq, or_false, false_or, or_true, true_or, false_and, and_false] at hb; try (exfalso; omega)))
        | (with_reducible refine kon_cond fun R1 R2 h1 h2 => ?_
           dsimp only [go_sem]
           first
             | (with_reducible refine h1 ?_; clear h1 h2 R1 R2)
             | (with_reducible refine h2 ?_; clear h1 h2 R1 R2)
             | ((split <;> rename_i hb <;> first
                 | (with_reducible refine h1 ?_; clear h1 h2 R1 R2; try simp only [hb])
                 | (with_reducible refine h2 ?_; clear h1 h2 R1 R2; try simp only [hb])) <;> (try simp only [decide_eq_true_eq, decide_eq_false_iff_not, beq_iff_eq, beq_eq_false_iff_ne, bne_iff_ne, bne_eq_false_iff_eq, Bool.not_eq_true, Bool.not_eq_false, Bool.not_eq_eq_eq_not, Bool.not_true, Bool.not_false, ne_eq, Int.not_lt, Int.not_le, eq_self, not_true_eq_false, not_false_eq_true, decide_true, decide_false, Bool.and_eq_true, Bool.or_eq_true, Bool.and_eq_false_iff, Bool.or_eq_false_iff, gt_iff_lt, ge_iff_le, Bool.false_eq_true, Bool.true_eq_false, reduceCtorEq, or_false, false_or, or_true, true_or, false_and, and_false] at hb; try (exfalso; omega))))
      all_goals first
        | (dsimp only [kon]
           with_reducible refine hQ _ _ _ ?_
           dsimp only [kon, endQ, af180, conLives, go_sem, Nat.reduceAdd, Nat.reduceMul, Nat.reduceSub, Nat.reduceBEq, Nat.reduceLeDiff, Nat.reduceEqDiff, ↓dreduceIte, toG, tb180_193, conLast]
           try simp (disch := first | omega | (simp only [List.length_set, List.length_append, List.length_cons, List.length_nil, List.length_replicate]; omega)) only [guardP_T, guardP_pos, iteN, rd_set, List.set_set, List.length_set, eta_fact, eta_rumor, eta_doubt, eta_item, eta_rec, eta_due, look, look0, rd_toNat, wrap64, Int.toNat_natCast, Nat.zero_add, List.take_length, List.drop_zero, and_self, setB_len, true_and, and_true]
           try dsimp only [go_sem, Nat.reduceAdd, Nat.reduceMul, Nat.reduceSub, Nat.reduceBEq, Nat.reduceLeDiff, Nat.reduceEqDiff, ↓dreduceIte, toG, tb180_193, conLast])
        | skip
      all_goals try first
        | omega
        | (simp; done)
        | (simp; omega)
      all_goals (simp_all [livesB] <;> (intros; omega))
    · simp at h'

def tb171 : Tab := fun f => match f with
  | 128 => some conLast
  | _ => none

theorem tb171_128 : tb171 128 = some conLast := rfl

-- loop.example/g00678/spec.l12Lives hows []
def af171 : AF := ⟨22, [.t 6],
  .seq (.reg [⟨some 6, .mv (.b false), none⟩])
  (.seq (.reg [⟨some 8, .mv (.t 0), none⟩,
    ⟨some 9, .mv (.t 1), none⟩,
    ⟨some 10, .mv (.t 2), none⟩,
    ⟨some 11, .call 128 [(.t 8), (.t 9), (.t 10)], none⟩,
    ⟨some 7, .mv (.t 11), none⟩])
  (.seq (.reg [⟨some 12, .mv (.t 7), none⟩,
    ⟨some 13, .bin .geq (.t 12) (.i 0), none⟩,
    ⟨some 14, .mv (.t 13), none⟩,
    ⟨some 15, .mv (.t 0), some (14, true)⟩,
    ⟨some 16, .mv (.t 7), some (14, true)⟩,
    ⟨some 17, .ia .rcd (.t 15) (.t 16), some (14, true)⟩,
    ⟨some 18, .fa 2 (.t 17), some (14, true)⟩,
    ⟨some 19, .ld false 1 (.t 18), some (14, true)⟩,
    ⟨some 20, .bin .eql (.t 19) (.i 1), some (14, true)⟩,
    ⟨some 21, .pick (.t 14) (.t 20) (.b false), none⟩,
    ⟨some 6, .mv (.t 21), none⟩])
  (.ret)))⟩

set_option maxHeartbeats 4000000 in
theorem does171 (as : List AV) (hok : ok 64 as) : Does tb171 af171 conLives as := by
  cases h : (conLives).run as with
  | none => exact does_none h
  | some out =>
    have h' := h
    simp only [conLives] at h'
    split at h'
    · rename_i l i n
      by_cases hp : 0 ≤ i ∧ i ≤ l.length
      case neg => simp [guardP, hp] at h'
      rw [guardP_pos hp] at h'
      obtain ⟨hp1, hp2⟩ := hp
      simp only [ok] at hok
      obtain ⟨⟨hlen, _⟩, _⟩ := hok
      have hlt := lastI_lt (lifeP n) l i.toNat
      have hge := lastI_ge (lifeP n) l i.toNat
      simp only [Option.some.injEq] at h'
      subst h'
      have hmo : (most : Int) = 1099511627776 := rfl
      have hml : (maxLen : Int) = 9223372036854775807 := rfl
      with_reducible refine does_by h fun Q hQ => ?_
      clear h
      dsimp only [af171, conLives, go_sem, Nat.reduceAdd, Nat.reduceMul, Nat.reduceSub, Nat.reduceBEq, Nat.reduceLeDiff, Nat.reduceEqDiff, ↓dreduceIte, toG, tb171_128, conLast]
      repeat' first
        | with_reducible refine kon_seq ?_
        | with_reducible refine kon_nil ?_
        | with_reducible refine kon_any ?_ ?_
        | with_reducible exact kon_any_nil
        | with_reducible refine kon_skip ?_
        | with_reducible refine kon_block ?_
        | with_reducible refine kon_ret ?_
        | with_reducible refine kon_exit ?_
        | with_reducible refine kon_past_ret ?_
        | with_reducible refine kon_past_exit ?_
        | with_reducible refine kon_blk_ret ?_
        | with_reducible refine kon_blk_end ?_
        | with_reducible refine kon_blk_exit ?_
        | (with_reducible refine kon_blk_past ?_ ?_
           · decide)
        | with_reducible refine loop_exit ?_
        | with_reducible refine loop_ret ?_
        | with_reducible refine mid_exit ?_
        | with_reducible refine mid_ret ?_
        | ((first | with_reducible refine kon_bin fun R hR => ?_ | with_reducible refine kon_conv fun R hR => ?_)
           dsimp only [go_sem, Nat.reduceAdd, Nat.reduceMul, Nat.reduceSub, Nat.reduceBEq, Nat.reduceLeDiff, Nat.reduceEqDiff, ↓dreduceIte, toG, tb171_128, conLast]
           try simp (disch := first | omega | (simp only [List.length_set, List.length_append, List.length_cons, List.length_nil, List.length_replicate]; omega)) only [guardP_T, guardP_pos, iteN, rd_set, List.set_set, List.length_set, eta_fact, eta_rumor, eta_doubt, eta_item, eta_rec, eta_due, look, look0, rd_toNat, wrap64, Int.toNat_natCast, Nat.zero_add, List.take_length, List.drop_zero, and_self, setB_len, true_and, and_true]
           with_reducible refine hR _ ?_
           clear hR R)
        | (with_reducible refine kon_ins fun R hR => ?_
           dsimp only [go_sem, Nat.reduceAdd, Nat.reduceMul, Nat.reduceSub, Nat.reduceBEq, Nat.reduceLeDiff, Nat.reduceEqDiff, ↓dreduceIte, toG, tb171_128, conLast]
           first
             | with_reducible refine hR _ ?_
             | (simp (disch := first | omega | (simp only [List.length_set, List.length_append, List.length_cons, List.length_nil, List.length_replicate]; omega)) only [guardP_T, guardP_pos, iteN, rd_set, List.set_set, List.length_set, eta_fact, eta_rumor, eta_doubt, eta_item, eta_rec, eta_due, look, look0, rd_toNat, wrap64, Int.toNat_natCast, Nat.zero_add, List.take_length, List.drop_zero, and_self, setB_len, true_and, and_true]
                try dsimp only [go_sem, Nat.reduceAdd, Nat.reduceMul, Nat.reduceSub, Nat.reduceBEq, Nat.reduceLeDiff, Nat.reduceEqDiff, ↓dreduceIte, toG, tb171_128, conLast]
                try simp (disch := first | omega | (simp only [List.length_set, List.length_append, List.length_cons, List.length_nil, List.length_replicate]; omega)) only [guardP_T, guardP_pos, iteN, rd_set, List.set_set, List.length_set, eta_fact, eta_rumor, eta_doubt, eta_item, eta_rec, eta_due, look, look0, rd_toNat, wrap64, Int.toNat_natCast, Nat.zero_add, List.take_length, List.drop_zero, and_self, setB_len, true_and, and_true]
                with_reducible refine hR _ ?_)
           clear hR R)
        | (with_reducible refine kon_g_run ?_ ?_
           · dsimp only [nth] <;> with_reducible rfl)
        | (with_reducible refine kon_g_skip ?_ ?_
           · dsimp only [nth, not_t', not_f'] <;> with_reducible rfl
           dsimp only [go_sem])
        | (with_reducible refine kon_g_undef ?_ ?_
           · dsimp only [nth] <;> with_reducible rfl
           dsimp only [go_sem])
        | (with_reducible refine kon_g fun R hR => ?_
           dsimp only [go_sem, Nat.reduceAdd, Nat.reduceMul, Nat.reduceSub, Nat.reduceBEq, Nat.reduceLeDiff, Nat.reduceEqDiff, ↓dreduceIte, toG, tb171_128, conLast]
           split <;> (rename_i hb; with_reducible refine hR _ ?_; clear hR R; try simp only [hb]; try simp only [decide_eq_true_eq, decide_eq_false_iff_not, beq_iff_eq, beq_eq_false_iff_ne, bne_iff_ne, bne_eq_false_iff_eq, Bool.not_eq_true, Bool.not_eq_false, Bool.not_eq_eq_eq_not, Bool.not_true, Bool.not_false, ne_eq, Int.not_lt, Int.not_le, eq_self, not_true_eq_false, not_false_eq_true, decide_true, decide_false, Bool.and_eq_true, Bool.or_eq_true, Bool.and_eq_false_iff, Bool.or_eq_false_iff, gt_iff_lt, ge_iff_le, Bool.false_eq_true, Bool.true_eq_false, reduceCtorEq, or_false, false_or, or_true, true_or, false_and, and_false] at hb; try (exfalso; omega)))
        | (with_reducible refine kon_cond fun R1 R2 h1 h2 => ?_
           dsimp only [go_sem]
           first
             | (with_reducible refine h1 ?_; clear h1 h2 R1 R2)
             | (with_reducible refine h2 ?_; clear h1 h2 R1 R2)
             | ((split <;> rename_i hb <;> first
                 | (with_reducible refine h1 ?_; clear h1 h2 R1 R2; try simp only [hb])
                 | (with_reducible refine h2 ?_; clear h1 h2 R1 R2; try simp only [hb])) <;> (try simp only [decide_eq_true_eq, decide_eq_false_iff_not, beq_iff_eq, beq_eq_false_iff_ne, bne_iff_ne, bne_eq_false_iff_eq, Bool.not_eq_true, Bool.not_eq_false, Bool.not_eq_eq_eq_not, Bool.not_true, Bool.not_false, ne_eq, Int.not_lt, Int.not_le, eq_self, not_true_eq_false, not_false_eq_true, decide_true, decide_false, Bool.and_eq_true, Bool.or_eq_true, Bool.and_eq_false_iff, Bool.or_eq_false_iff, gt_iff_lt, ge_iff_le, Bool.false_eq_true, Bool.true_eq_false, reduceCtorEq, or_false, false_or, or_true, true_or, false_and, and_false] at hb; try (exfalso; omega))))
      all_goals first
        | (dsimp only [kon]
           with_reducible refine hQ _ _ _ ?_
           dsimp only [kon, endQ, af171, conLives, go_sem, Nat.reduceAdd, Nat.reduceMul, Nat.reduceSub, Nat.reduceBEq, Nat.reduceLeDiff, Nat.reduceEqDiff, ↓dreduceIte, toG, tb171_128, conLast]
           try simp (disch := first | omega | (simp only [List.length_set, List.length_append, List.length_cons, List.length_nil, List.length_replicate]; omega)) only [guardP_T, guardP_pos, iteN, rd_set, List.set_set, List.length_set, eta_fact, eta_rumor, eta_doubt, eta_item, eta_rec, eta_due, look, look0, rd_toNat, wrap64, Int.toNat_natCast, Nat.zero_add, List.take_length, List.drop_zero, and_self, setB_len, true_and, and_true]
           try dsimp only [go_sem, Nat.reduceAdd, Nat.reduceMul, Nat.reduceSub, Nat.reduceBEq, Nat.reduceLeDiff, Nat.reduceEqDiff, ↓dreduceIte, toG, tb171_128, conLast])
        | skip
      all_goals try first
        | omega
        | (simp; done)
        | (simp; omega)
      all_goals (simp_all [livesB] <;> (intros; omega))
    · simp at h'

end Go.Proofs.Ytnghlmogcbmlfaa
