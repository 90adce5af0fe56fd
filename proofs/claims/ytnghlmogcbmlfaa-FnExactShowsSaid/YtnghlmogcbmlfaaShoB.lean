/- Which places a clause speaks of: both sides. -/
import Derived.Test.YtnghlmogcbmlfaaShoA
namespace Go.Proofs.Ytnghlmogcbmlfaa
set_option linter.unusedVariables false
set_option linter.unusedSimpArgs false
set_option linter.unnecessarySimpa false

def tb132 : Tab := fun f => match f with
  | 146 => some conLastOf
  | 182 => some conNoLess
  | 183 => some conSame
  | 184 => some conRisen
  | 191 => some conHasI
  | 209 => some conCl209
  | 210 => some conCl210
  | _ => none

theorem tb132_146 : tb132 146 = some conLastOf := rfl
theorem tb132_182 : tb132 182 = some conNoLess := rfl
theorem tb132_183 : tb132 183 = some conSame := rfl
theorem tb132_184 : tb132 184 = some conRisen := rfl
theorem tb132_191 : tb132 191 = some conHasI := rfl
theorem tb132_209 : tb132 209 = some conCl209 := rfl
theorem tb132_210 : tb132 210 = some conCl210 := rfl

-- loop.example/g00678/impl.speaks hows [(1, [.any, .any, .still, .still, .any, .any, .still, .still, .any, .any, .any, .any], [([0, 1, 2, 3, 4, 5, 6, 7, 8, 9, 10, 11], [(8, 9)]), ([0, 1, 2, 3, 4, 5, 6, 7, 9, 8, 10, 11], [(9, 8)])]), (10, [.any, .boxed, .any, .boxed, .any, .any, .any, .boxed, .any, .any, .any, .any, .any, .any, .any, .any, .any, .boxed, .any, .boxed, .any, .boxed, .any, .any, .any], [([0, 1, 2, 3, 4, 5, 6, 7, 8, 9, 10, 11, 12, 13, 14, 15, 16, 17, 18, 19, 20, 21, 22, 23, 24], [(20, 21)]), ([0, 1, 2, 3, 4, 5, 6, 7, 8, 9, 10, 11, 12, 13, 14, 15, 16, 17, 18, 19, 21, 20, 22, 23, 24], [(21, 20)])]), (12, [.boxed, .any, .boxed, .any, .any], [([0, 1, 2, 3, 4], [(1, 2)]), ([0, 2, 1, 3, 4], [(2, 1)])])]
def af132 : AF := ⟨92, [.t 8],
  .seq (.reg [⟨some 8, .mv (.b false), none⟩])
  (.seq (.any [[⟨some 13, .mv (.t 0), none⟩,
      ⟨some 14, .mv (.t 3), none⟩,
      ⟨some 15, .ia0 .rcd (.t 13) (.t 14), none⟩,
      ⟨some 16, .ld0 true 6 (.t 15), none⟩,
      ⟨some 17, .mv (.t 0), none⟩,
      ⟨some 18, .mv (.t 2), none⟩,
      ⟨some 19, .ia0 .rcd (.t 17) (.t 18), none⟩,
      ⟨some 20, .ld0 true 6 (.t 19), none⟩,
      ⟨some 9, .box (.c (.agg [.int .i64 0, .int .i64 0, .int .i64 0, .int .i64 0, .int .i64 0, .int .i64 0])), none⟩,
      ⟨some 10, .box (.c (.agg [.int .i64 0, .int .i64 0, .int .i64 0, .int .i64 0, .int .i64 0, .int .i64 0])), none⟩,
      ⟨none, .st 6 (.t 9) (.t 16), none⟩,
      ⟨none, .st 6 (.t 10) (.t 20), none⟩],
    [⟨some 13, .mv (.t 0), none⟩,
      ⟨some 14, .mv (.t 3), none⟩,
      ⟨some 15, .ia0 .rcd (.t 13) (.t 14), none⟩,
      ⟨some 16, .ld0 true 6 (.t 15), none⟩,
      ⟨some 17, .mv (.t 0), none⟩,
      ⟨some 18, .mv (.t 2), none⟩,
      ⟨some 19, .ia0 .rcd (.t 17) (.t 18), none⟩,
      ⟨some 20, .ld0 true 6 (.t 19), none⟩,
      ⟨some 10, .box (.c (.agg [.int .i64 0, .int .i64 0, .int .i64 0, .int .i64 0, .int .i64 0, .int .i64 0])), none⟩,
      ⟨some 9, .box (.c (.agg [.int .i64 0, .int .i64 0, .int .i64 0, .int .i64 0, .int .i64 0, .int .i64 0])), none⟩,
      ⟨none, .st 6 (.t 9) (.t 16), none⟩,
      ⟨none, .st 6 (.t 10) (.t 20), none⟩]])
  (.seq (.seq (.reg [⟨some 21, .mv (.t 1), none⟩])
  (.block 0 (.seq (.reg [⟨some 23, .bin .eql (.t 21) (.i 1), none⟩,
      ⟨some 22, .mv (.t 23), none⟩])
    (.cond (.t 22)
      (.seq (.reg [⟨some 24, .mv (.t 2), none⟩,
        ⟨some 25, .mv (.t 3), none⟩,
        ⟨some 26, .bin .sub (.t 25) (.i 1), none⟩,
        ⟨some 27, .bin .eql (.t 24) (.t 26), none⟩,
        ⟨some 8, .mv (.t 27), none⟩])
      (.ret))
      (.seq (.reg [⟨some 29, .bin .eql (.t 21) (.i 2), none⟩,
        ⟨some 28, .mv (.t 29), none⟩])
      (.cond (.t 28)
        (.seq (.reg [⟨some 30, .mv (.t 0), none⟩,
          ⟨some 31, .mv (.t 3), none⟩,
          ⟨some 32, .mf 189 [(.t 9)], none⟩,
          ⟨some 33, .call 146 [(.t 30), (.t 31), (.t 32)], none⟩,
          ⟨some 11, .mv (.t 33), none⟩])
        (.seq (.reg [⟨some 34, .fa 1 (.t 10), none⟩,
          ⟨some 35, .ld false 1 (.t 34), none⟩,
          ⟨some 36, .fa 1 (.t 9), none⟩,
          ⟨some 37, .ld false 1 (.t 36), none⟩,
          ⟨some 38, .bin .eql (.t 35) (.t 37), none⟩,
          ⟨some 39, .mv (.t 38), none⟩,
          ⟨some 40, .fa 2 (.t 10), some (39, true)⟩,
          ⟨some 41, .ld false 1 (.t 40), some (39, true)⟩,
          ⟨some 42, .bin .eql (.t 41) (.i 2), some (39, true)⟩,
          ⟨some 43, .pick (.t 39) (.t 42) (.b false), none⟩,
          ⟨some 44, .mv (.t 43), none⟩,
          ⟨some 45, .mv (.t 11), some (44, true)⟩,
          ⟨some 46, .mv (.t 2), some (44, true)⟩,
          ⟨some 47, .bin .lss (.t 45) (.t 46), some (44, true)⟩,
          ⟨some 48, .pick (.t 44) (.t 47) (.b false), none⟩,
          ⟨some 8, .mv (.t 48), none⟩])
        (.ret)))
        (.seq (.reg [⟨some 50, .bin .eql (.t 21) (.i 3), none⟩,
          ⟨some 49, .mv (.t 50), none⟩])
        (.cond (.t 49)
          (.seq (.reg [⟨some 51, .mv (.t 0), none⟩,
            ⟨some 52, .mv (.t 3), none⟩,
            ⟨some 53, .mf 190 [(.t 9)], none⟩,
            ⟨some 54, .call 146 [(.t 51), (.t 52), (.t 53)], none⟩,
            ⟨some 12, .mv (.t 54), none⟩])
          (.seq (.any [[⟨some 55, .fa 1 (.t 10), none⟩,
              ⟨some 56, .ldb false 1 (.t 55), none⟩,
              ⟨some 57, .fa 1 (.t 9), none⟩,
              ⟨some 58, .ldb false 1 (.t 57), none⟩,
              ⟨some 59, .bin .eql (.t 56) (.t 58), none⟩,
              ⟨some 60, .mv (.t 59), none⟩,
              ⟨some 61, .fa 2 (.t 10), some (60, true)⟩,
              ⟨some 62, .ldb false 1 (.t 61), some (60, true)⟩,
              ⟨some 63, .bin .eql (.t 62) (.i 1), some (60, true)⟩,
              ⟨some 64, .pick (.t 60) (.t 63) (.b false), none⟩,
              ⟨some 65, .mv (.t 64), none⟩,
              ⟨some 66, .mv (.t 12), some (65, true)⟩,
              ⟨some 67, .mv (.t 2), some (65, true)⟩,
              ⟨some 68, .bin .lss (.t 66) (.t 67), some (65, true)⟩,
              ⟨some 69, .pick (.t 65) (.t 68) (.b false), none⟩,
              ⟨some 70, .mv (.t 69), none⟩,
              ⟨some 71, .fa 1 (.t 9), some (70, false)⟩,
              ⟨some 72, .ldb false 1 (.t 71), some (70, false)⟩,
              ⟨some 73, .fa 3 (.t 9), some (70, false)⟩,
              ⟨some 74, .ldb false 1 (.t 73), some (70, false)⟩,
              ⟨some 75, .call 182 [(.t 72), (.t 74)], some (70, false)⟩,
              ⟨some 76, .ldb true 6 (.t 10), some (70, false)⟩,
              ⟨some 77, .callv (.t 75) [(.t 76)], some (70, false)⟩,
              ⟨some 78, .pick (.t 70) (.b true) (.t 77), none⟩,
              ⟨some 8, .mv (.t 78), none⟩],
            [⟨some 55, .fa 1 (.t 10), none⟩,
              ⟨some 56, .ldb false 1 (.t 55), none⟩,
              ⟨some 57, .fa 1 (.t 9), none⟩,
              ⟨some 58, .ldb false 1 (.t 57), none⟩,
              ⟨some 59, .bin .eql (.t 56) (.t 58), none⟩,
              ⟨some 60, .mv (.t 59), none⟩,
              ⟨some 61, .fa 2 (.t 10), some (60, true)⟩,
              ⟨some 62, .ldb false 1 (.t 61), some (60, true)⟩,
              ⟨some 63, .bin .eql (.t 62) (.i 1), some (60, true)⟩,
              ⟨some 64, .pick (.t 60) (.t 63) (.b false), none⟩,
              ⟨some 65, .mv (.t 64), none⟩,
              ⟨some 66, .mv (.t 12), some (65, true)⟩,
              ⟨some 67, .mv (.t 2), some (65, true)⟩,
              ⟨some 68, .bin .lss (.t 66) (.t 67), some (65, true)⟩,
              ⟨some 69, .pick (.t 65) (.t 68) (.b false), none⟩,
              ⟨some 70, .mv (.t 69), none⟩,
              ⟨some 71, .fa 1 (.t 9), some (70, false)⟩,
              ⟨some 72, .ldb false 1 (.t 71), some (70, false)⟩,
              ⟨some 73, .fa 3 (.t 9), some (70, false)⟩,
              ⟨some 74, .ldb false 1 (.t 73), some (70, false)⟩,
              ⟨some 76, .ldb true 6 (.t 10), some (70, false)⟩,
              ⟨some 75, .call 182 [(.t 72), (.t 74)], some (70, false)⟩,
              ⟨some 77, .callv (.t 75) [(.t 76)], some (70, false)⟩,
              ⟨some 78, .pick (.t 70) (.b true) (.t 77), none⟩,
              ⟨some 8, .mv (.t 78), none⟩]])
          (.ret)))
          (.seq (.reg [⟨some 80, .bin .eql (.t 21) (.i 4), none⟩,
            ⟨some 79, .mv (.t 80), none⟩])
          (.cond (.t 79)
            (.seq (.any [[⟨some 81, .ldb true 6 (.t 9), none⟩,
                ⟨some 82, .call 183 [(.t 81)], none⟩,
                ⟨some 83, .ldb true 6 (.t 10), none⟩,
                ⟨some 84, .callv (.t 82) [(.t 83)], none⟩,
                ⟨some 8, .mv (.t 84), none⟩],
              [⟨some 81, .ldb true 6 (.t 9), none⟩,
                ⟨some 83, .ldb true 6 (.t 10), none⟩,
                ⟨some 82, .call 183 [(.t 81)], none⟩,
                ⟨some 84, .callv (.t 82) [(.t 83)], none⟩,
                ⟨some 8, .mv (.t 84), none⟩]])
            (.ret))
            (.seq (.reg [⟨some 86, .bin .eql (.t 21) (.i 6), none⟩,
              ⟨some 85, .mv (.t 86), none⟩])
            (.cond (.t 85)
              (.seq (.reg [⟨some 87, .mv (.t 0), none⟩,
                ⟨some 88, .mv (.t 3), none⟩,
                ⟨some 89, .call 184 [(.t 87), (.t 88)], none⟩,
                ⟨some 90, .mv (.t 2), none⟩,
                ⟨some 91, .call 191 [(.t 89), (.t 90)], none⟩,
                ⟨some 8, .mv (.t 91), none⟩])
              (.ret))
              (.skip)))))))))))))
  (.seq (.reg [⟨some 8, .mv (.b false), none⟩])
  (.ret))))⟩

set_option maxHeartbeats 4000000 in
theorem does132 (as : List AV) (hok : ok 64 as) : Does tb132 af132 conSpeaks as := by
  cases h : (conSpeaks).run as with
  | none => exact does_none h
  | some out =>
    have h' := h
    simp only [conSpeaks] at h'
    split at h'
    · rename_i l c k i
      by_cases hp : 0 ≤ k ∧ k < i ∧ i < l.length ∧ l.length ≤ 400
      case neg => simp [guardP, hp] at h'
      rw [guardP_pos hp] at h'
      obtain ⟨hp1, hp2, hp3, hp4⟩ := hp
      simp only [ok] at hok
      obtain ⟨⟨hlen, _⟩, _⟩ := hok
      simp only [Option.some.injEq] at h'
      subst h'
      have hmo : (most : Int) = 1099511627776 := rfl
      have hml : (maxLen : Int) = 9223372036854775807 := rfl
      with_reducible refine does_by h fun Q hQ => ?_
      clear h
      dsimp only [af132, conSpeaks, go_sem, Nat.reduceAdd, Nat.reduceMul, Nat.reduceSub, Nat.reduceBEq, Nat.reduceLeDiff, Nat.reduceEqDiff, ↓dreduceIte, toG, semR_143, semR_214, semR_147, semR_201, semR_211, semR_209, semR_210, semR_185, semR_187, semR_188, semR_192, semR_189, semR_190, tb132_146, tb132_182, tb132_183, tb132_184, tb132_191, tb132_209, tb132_210, conCl209, conCl210, conHasI, conLastOf, conNoLess, conRisen, conSame]
      repeat' first
        | with_reducible refine kon_seq ?_
        | with_reducible refine kon_nil ?_
        | with_reducible refine kon_any ?_ ?_
        | with_reducible exact kon_any_nil
        | with_reducible refine kon_skip ?_
        | with_reducible refine kon_block ?_
        | with_reducible refine kon_ret ?_
        | with_reducible refine kon_exit ?_
        | with_reducible refine kon_past_ret ?_
        | with_reducible refine kon_past_exit ?_
        | with_reducible refine kon_blk_ret ?_
        | with_reducible refine kon_blk_end ?_
        | with_reducible refine kon_blk_exit ?_
        | (with_reducible refine kon_blk_past ?_ ?_
           · decide)
        | with_reducible refine loop_exit ?_
        | with_reducible refine loop_ret ?_
        | with_reducible refine mid_exit ?_
        | with_reducible refine mid_ret ?_
        | ((first | with_reducible refine kon_bin fun R hR => ?_ | with_reducible refine kon_conv fun R hR => ?_)
           dsimp only [go_sem, Nat.reduceAdd, Nat.reduceMul, Nat.reduceSub, Nat.reduceBEq, Nat.reduceLeDiff, Nat.reduceEqDiff, ↓dreduceIte, toG, semR_143, semR_214, semR_147, semR_201, semR_211, semR_209, semR_210, semR_185, semR_187, semR_188, semR_192, semR_189, semR_190, tb132_146, tb132_182, tb132_183, tb132_184, tb132_191, tb132_209, tb132_210, conCl209, conCl210, conHasI, conLastOf, conNoLess, conRisen, conSame]
           try simp (disch := first | omega | (simp only [List.length_set, List.length_append, List.length_cons, List.length_nil, List.length_replicate]; omega)) only [guardP_T, guardP_pos, iteN, rd_set, List.set_set, List.length_set, eta_fact, eta_rumor, eta_doubt, eta_item, eta_rec, eta_due, look, look0, rd_toNat, wrap64, Int.toNat_natCast, Nat.zero_add, List.take_length, List.drop_zero, and_self, setB_len, true_and, and_true]
           with_reducible refine hR _ ?_
           clear hR R)
        | (with_reducible refine kon_ins fun R hR => ?_
           dsimp only [go_sem, Nat.reduceAdd, Nat.reduceMul, Nat.reduceSub, Nat.reduceBEq, Nat.reduceLeDiff, Nat.reduceEqDiff, ↓dreduceIte, toG, semR_143, semR_214, semR_147, semR_201, semR_211, semR_209, semR_210, semR_185, semR_187, semR_188, semR_192, semR_189, semR_190, tb132_146, tb132_182, tb132_183, tb132_184, tb132_191, tb132_209, tb132_210, conCl209, conCl210, conHasI, conLastOf, conNoLess, conRisen, conSame]
           first
             | with_reducible refine hR _ ?_
             | (simp (disch := first | omega | (simp only [List.length_set, List.length_append, List.length_cons, List.length_nil, List.length_replicate]; omega)) only [guardP_T, guardP_pos, iteN, rd_set, List.set_set, List.length_set, eta_fact, eta_rumor, eta_doubt, eta_item, eta_rec, eta_due, look, look0, rd_toNat, wrap64, Int.toNat_natCast, Nat.zero_add, List.take_length, List.drop_zero, and_self, setB_len, true_and, and_true]
                try dsimp only [go_sem, Nat.reduceAdd, Nat.reduceMul, Nat.reduceSub, Nat.reduceBEq, Nat.reduceLeDiff, Nat.reduceEqDiff, ↓dreduceIte, toG, semR_143, semR_214, semR_147, semR_201, semR_211, semR_209, semR_210, semR_185, semR_187, semR_188, semR_192, semR_189, semR_190, tb132_146, tb132_182, tb132_183, tb132_184, tb132_191, tb132_209, tb132_210, conCl209, conCl210, conHasI, conLastOf, conNoLess, conRisen, conSame]
                try simp (disch := first | omega | (simp only [List.length_set, List.length_append, List.length_cons, List.length_nil, List.length_replicate]; omega)) only [guardP_T, guardP_pos, iteN, rd_set, List.set_set, List.length_set, eta_fact, eta_rumor, eta_doubt, eta_item, eta_rec, eta_due, look, look0, rd_toNat, wrap64, Int.toNat_natCast, Nat.zero_add, List.take_length, List.drop_zero, and_self, setB_len, true_and, and_true]
                with_reducible refine hR _ ?_)
           clear hR R)
        | (with_reducible refine kon_g_run ?_ ?_
           · dsimp only [nth] <;> with_reducible rfl)
        | (with_reducible refine kon_g_skip ?_ ?_
           · dsimp only [nth, not_t', not_f'] <;> with_reducible rfl
           dsimp only [go_sem])
        | (with_reducible refine kon_g_undef ?_ ?_
           · dsimp only [nth] <;> with_reducible rfl
           dsimp only [go_sem])
        | (with_reducible refine kon_g fun R hR => ?_
           dsimp only [go_sem, Nat.reduceAdd, Nat.reduceMul, Nat.reduceSub, Nat.reduceBEq, Nat.reduceLeDiff, Nat.reduceEqDiff, ↓dreduceIte, toG, semR_143, semR_214, semR_147, semR_201, semR_211, semR_209, semR_210, semR_185, semR_187, semR_188, semR_192, semR_189, semR_190, tb132_146, tb132_182, tb132_183, tb132_184, tb132_191, tb132_209, tb132_210, conCl209, conCl210, conHasI, conLastOf, conNoLess, conRisen, conSame]
           split <;> (rename_i hb; with_reducible refine hR _ ?_; clear hR R; try simp only [hb]; try simp only [decide_eq_true_eq, decide_eq_false_iff_not, beq_iff_eq, beq_eq_false_iff_ne, bne_iff_ne, bne_eq_false_iff_eq, Bool.not_eq_true, Bool.not_eq_false, Bool.not_eq_eq_eq_not, Bool.not_true, Bool.not_false, ne_eq, Int.not_lt, Int.not_le, eq_self, not_true_eq_false, not_false_eq_true, decide_true, decide_false, Bool.and_eq_true, Bool.or_eq_true, Bool.and_eq_false_iff, Bool.or_eq_false_iff, gt_iff_lt, ge_iff_le, Bool.false_eq_true, Bool.true_eq_false, reduceCtorEq, or_false, false_or, or_true, true_or, false_and, and_false] at hb; try (exfalso; omega)))
        | (with_reducible refine kon_cond fun R1 R2 h1 h2 => ?_
           dsimp only [go_sem]
           first
             | (with_reducible refine h1 ?_; clear h1 h2 R1 R2)
             | (with_reducible refine h2 ?_; clear h1 h2 R1 R2)
             | ((split <;> rename_i hb <;> first
                 | (with_reducible refine h1 ?_; clear h1 h2 R1 R2; try simp only [hb])
                 | (with_reducible refine h2 ?_; clear h1 h2 R1 R2; try simp only [hb])) <;> (try simp only [decide_eq_true_eq, decide_eq_false_iff_not, beq_iff_eq, beq_eq_false_iff_ne, bne_iff_ne, bne_eq_false_iff_eq, Bool.not_eq_true, Bool.not_eq_false, Bool.not_eq_eq_eq_not, Bool.not_true, Bool.not_false, ne_eq, Int.not_lt, Int.not_le, eq_self, not_true_eq_false, not_false_eq_true, decide_true, decide_false, Bool.and_eq_true, Bool.or_eq_true, Bool.and_eq_false_iff, Bool.or_eq_false_iff, gt_iff_lt, ge_iff_le, Bool.false_eq_true, Bool.true_eq_false, reduceCtorEq, or_false, false_or, or_true, true_or, false_and, and_false] at hb; try (exfalso; omega))))
      all_goals first
        | (dsimp only [kon]
           with_reducible refine hQ _ _ _ ?_
           dsimp only [kon, endQ, af132, conSpeaks, go_sem, Nat.reduceAdd, Nat.reduceMul, Nat.reduceSub, Nat.reduceBEq, Nat.reduceLeDiff, Nat.reduceEqDiff, ↓dreduceIte, toG, semR_143, semR_214, semR_147, semR_201, semR_211, semR_209, semR_210, semR_185, semR_187, semR_188, semR_192, semR_189, semR_190, tb132_146, tb132_182, tb132_183, tb132_184, tb132_191, tb132_209, tb132_210, conCl209, conCl210, conHasI, conLastOf, conNoLess, conRisen, conSame]
           try simp (disch := first | omega | (simp only [List.length_set, List.length_append, List.length_cons, List.length_nil, List.length_replicate]; omega)) only [guardP_T, guardP_pos, iteN, rd_set, List.set_set, List.length_set, eta_fact, eta_rumor, eta_doubt, eta_item, eta_rec, eta_due, look, look0, rd_toNat, wrap64, Int.toNat_natCast, Nat.zero_add, List.take_length, List.drop_zero, and_self, setB_len, true_and, and_true]
           try dsimp only [go_sem, Nat.reduceAdd, Nat.reduceMul, Nat.reduceSub, Nat.reduceBEq, Nat.reduceLeDiff, Nat.reduceEqDiff, ↓dreduceIte, toG, semR_143, semR_214, semR_147, semR_201, semR_211, semR_209, semR_210, semR_185, semR_187, semR_188, semR_192, semR_189, semR_190, tb132_146, tb132_182, tb132_183, tb132_184, tb132_191, tb132_209, tb132_210, conCl209, conCl210, conHasI, conLastOf, conNoLess, conRisen, conSame])
        | skip
      all_goals try first
        | omega
        | (simp; done)
        | (simp; omega)
      all_goals first
        | (simp_all [speaksI, crashP, startP, sameP, noLessP, risL]; done)
        | (subst_vars
           rw [speaksI, if_neg (by decide), if_neg (by decide), if_pos rfl, decide_eq_false (show ¬lastI (crashP (rd l i).node) l i.toNat < k by omega)]
           simp
           done)
        | (have e : speaksI l c k i = decide (k ∈ risL l i) := by
             unfold speaksI
             rw [if_neg (by omega), if_neg (by omega), if_neg (by omega), if_neg (by omega), if_pos hb]
           rw [e]
           rfl)
    · simp at h'

def tb127 : Tab := fun f => match f with
  | 128 => some conLast
  | 177 => some conQuiet
  | 178 => some conTold
  | 179 => some conLeast
  | _ => none

theorem tb127_128 : tb127 128 = some conLast := rfl
theorem tb127_177 : tb127 177 = some conQuiet := rfl
theorem tb127_178 : tb127 178 = some conTold := rfl
theorem tb127_179 : tb127 179 = some conLeast := rfl

-- loop.example/g00678/spec.l12First hows [(1, [.any, .any, .still, .still, .any, .any, .still, .still, .any, .any, .any, .any], [([0, 1, 2, 3, 4, 5, 6, 7, 8, 9, 10, 11], [(8, 9)]), ([0, 1, 2, 3, 4, 5, 6, 7, 9, 8, 10, 11], [(9, 8)])]), (8, [.any, .boxed, .any, .boxed, .any, .any, .any, .boxed, .any, .any, .any, .any, .any, .any, .pure, .any, .any, .boxed, .any, .boxed, .pure, .any, .boxed, .any, .any, .any], [])]
def af127 : AF := ⟨123, [.t 8],
  .seq (.reg [⟨some 8, .mv (.b false), none⟩])
  (.seq (.any [[⟨some 11, .mv (.t 0), none⟩,
      ⟨some 12, .mv (.t 1), none⟩,
      ⟨some 13, .ia0 .rcd (.t 11) (.t 12), none⟩,
      ⟨some 14, .ld0 true 6 (.t 13), none⟩,
      ⟨some 15, .mv (.t 0), none⟩,
      ⟨some 16, .mv (.t 2), none⟩,
      ⟨some 17, .ia0 .rcd (.t 15) (.t 16), none⟩,
      ⟨some 18, .ld0 true 6 (.t 17), none⟩,
      ⟨some 9, .box (.c (.agg [.int .i64 0, .int .i64 0, .int .i64 0, .int .i64 0, .int .i64 0, .int .i64 0])), none⟩,
      ⟨some 10, .box (.c (.agg [.int .i64 0, .int .i64 0, .int .i64 0, .int .i64 0, .int .i64 0, .int .i64 0])), none⟩,
      ⟨none, .st 6 (.t 9) (.t 14), none⟩,
      ⟨none, .st 6 (.t 10) (.t 18), none⟩],
    [⟨some 11, .mv (.t 0), none⟩,
      ⟨some 12, .mv (.t 1), none⟩,
      ⟨some 13, .ia0 .rcd (.t 11) (.t 12), none⟩,
      ⟨some 14, .ld0 true 6 (.t 13), none⟩,
      ⟨some 15, .mv (.t 0), none⟩,
      ⟨some 16, .mv (.t 2), none⟩,
      ⟨some 17, .ia0 .rcd (.t 15) (.t 16), none⟩,
      ⟨some 18, .ld0 true 6 (.t 17), none⟩,
      ⟨some 10, .box (.c (.agg [.int .i64 0, .int .i64 0, .int .i64 0, .int .i64 0, .int .i64 0, .int .i64 0])), none⟩,
      ⟨some 9, .box (.c (.agg [.int .i64 0, .int .i64 0, .int .i64 0, .int .i64 0, .int .i64 0, .int .i64 0])), none⟩,
      ⟨none, .st 6 (.t 9) (.t 14), none⟩,
      ⟨none, .st 6 (.t 10) (.t 18), none⟩]])
  (.seq (.seq (.reg [⟨some 19, .mv (.t 3), none⟩])
  (.block 0 (.seq (.reg [⟨some 21, .bin .eql (.t 19) (.i 1), none⟩,
      ⟨some 20, .mv (.t 21), none⟩])
    (.cond (.t 20)
      (.seq (.reg [⟨some 22, .mv (.t 1), none⟩,
        ⟨some 23, .mv (.t 2), none⟩,
        ⟨some 24, .bin .sub (.t 23) (.i 1), none⟩,
        ⟨some 25, .bin .eql (.t 22) (.t 24), none⟩,
        ⟨some 8, .mv (.t 25), none⟩])
      (.ret))
      (.seq (.reg [⟨some 27, .bin .eql (.t 19) (.i 2), none⟩,
        ⟨some 26, .mv (.t 27), none⟩])
      (.cond (.t 26)
        (.seq (.reg [⟨some 28, .fa 2 (.t 9), none⟩,
          ⟨some 29, .ld false 1 (.t 28), none⟩,
          ⟨some 30, .bin .eql (.t 29) (.i 2), none⟩,
          ⟨some 31, .mv (.t 30), none⟩,
          ⟨some 32, .mv (.t 0), some (31, true)⟩,
          ⟨some 33, .mv (.t 2), some (31, true)⟩,
          ⟨some 34, .fa 1 (.t 10), some (31, true)⟩,
          ⟨some 35, .ld false 1 (.t 34), some (31, true)⟩,
          ⟨some 36, .call 128 [(.t 32), (.t 33), (.t 35)], some (31, true)⟩,
          ⟨some 37, .bin .geq (.t 36) (.i 0), some (31, true)⟩,
          ⟨some 38, .pick (.t 31) (.t 37) (.b false), none⟩,
          ⟨some 39, .mv (.t 38), none⟩,
          ⟨some 40, .fa 1 (.t 9), some (39, true)⟩,
          ⟨some 41, .ld false 1 (.t 40), some (39, true)⟩,
          ⟨some 42, .fa 1 (.t 10), some (39, true)⟩,
          ⟨some 43, .ld false 1 (.t 42), some (39, true)⟩,
          ⟨some 44, .bin .eql (.t 41) (.t 43), some (39, true)⟩,
          ⟨some 45, .pick (.t 39) (.t 44) (.b false), none⟩,
          ⟨some 46, .mv (.t 45), none⟩,
          ⟨some 47, .mv (.t 0), some (46, true)⟩,
          ⟨some 48, .mv (.t 1), some (46, true)⟩,
          ⟨some 49, .mv (.t 2), some (46, true)⟩,
          ⟨some 50, .call 177 [(.t 47), (.t 48), (.t 49), (.i 1)], some (46, true)⟩,
          ⟨some 51, .pick (.t 46) (.t 50) (.b false), none⟩,
          ⟨some 8, .mv (.t 51), none⟩])
        (.ret))
        (.seq (.reg [⟨some 53, .bin .eql (.t 19) (.i 3), none⟩,
          ⟨some 52, .mv (.t 53), none⟩])
        (.cond (.t 52)
          (.seq (.reg [⟨some 54, .fa 1 (.t 9), none⟩,
            ⟨some 55, .ldb false 1 (.t 54), none⟩,
            ⟨some 56, .fa 1 (.t 10), none⟩,
            ⟨some 57, .ldb false 1 (.t 56), none⟩,
            ⟨some 58, .bin .eql (.t 55) (.t 57), none⟩,
            ⟨some 59, .mv (.t 58), none⟩,
            ⟨some 60, .fa 2 (.t 9), some (59, true)⟩,
            ⟨some 61, .ldb false 1 (.t 60), some (59, true)⟩,
            ⟨some 62, .bin .eql (.t 61) (.i 1), some (59, true)⟩,
            ⟨some 63, .pick (.t 59) (.t 62) (.b false), none⟩,
            ⟨some 64, .mv (.t 63), none⟩,
            ⟨some 65, .mv (.t 0), some (64, true)⟩,
            ⟨some 66, .mv (.t 1), some (64, true)⟩,
            ⟨some 67, .mv (.t 2), some (64, true)⟩,
            ⟨some 68, .callp 177 [(.t 65), (.t 66), (.t 67), (.i 2)], some (64, true)⟩,
            ⟨some 69, .pick (.t 64) (.t 68) (.b false), none⟩,
            ⟨some 70, .mv (.t 69), none⟩,
            ⟨some 71, .ldb true 6 (.t 9), some (70, false)⟩,
            ⟨some 72, .fa 1 (.t 10), some (70, false)⟩,
            ⟨some 73, .ldb false 1 (.t 72), some (70, false)⟩,
            ⟨some 74, .callp 178 [(.t 71), (.t 73)], some (70, false)⟩,
            ⟨some 75, .fa 3 (.t 10), some (70, false)⟩,
            ⟨some 76, .ldb false 1 (.t 75), some (70, false)⟩,
            ⟨some 77, .bin .geq (.t 74) (.t 76), some (70, false)⟩,
            ⟨some 78, .pick (.t 70) (.b true) (.t 77), none⟩,
            ⟨some 8, .mv (.t 78), none⟩])
          (.ret))
          (.seq (.reg [⟨some 80, .bin .eql (.t 19) (.i 4), none⟩,
            ⟨some 79, .mv (.t 80), none⟩])
          (.cond (.t 79)
            (.seq (.reg [⟨some 81, .fa 2 (.t 9), none⟩,
              ⟨some 82, .ld false 1 (.t 81), none⟩,
              ⟨some 83, .fa 2 (.t 10), none⟩,
              ⟨some 84, .ld false 1 (.t 83), none⟩,
              ⟨some 85, .bin .eql (.t 82) (.t 84), none⟩,
              ⟨some 86, .mv (.t 85), none⟩,
              ⟨some 87, .fa 3 (.t 9), some (86, true)⟩,
              ⟨some 88, .ld false 1 (.t 87), some (86, true)⟩,
              ⟨some 89, .fa 3 (.t 10), some (86, true)⟩,
              ⟨some 90, .ld false 1 (.t 89), some (86, true)⟩,
              ⟨some 91, .bin .eql (.t 88) (.t 90), some (86, true)⟩,
              ⟨some 92, .pick (.t 86) (.t 91) (.b false), none⟩,
              ⟨some 8, .mv (.t 92), none⟩])
            (.ret))
            (.seq (.reg [⟨some 94, .bin .eql (.t 19) (.i 6), none⟩,
              ⟨some 93, .mv (.t 94), none⟩])
            (.cond (.t 93)
              (.seq (.reg [⟨some 95, .fa 1 (.t 9), none⟩,
                ⟨some 96, .ld false 1 (.t 95), none⟩,
                ⟨some 97, .fa 1 (.t 10), none⟩,
                ⟨some 98, .ld false 1 (.t 97), none⟩,
                ⟨some 99, .bin .eql (.t 96) (.t 98), none⟩,
                ⟨some 100, .mv (.t 99), none⟩,
                ⟨some 101, .fa 2 (.t 9), some (100, true)⟩,
                ⟨some 102, .ld false 1 (.t 101), some (100, true)⟩,
                ⟨some 103, .bin .eql (.t 102) (.i 5), some (100, true)⟩,
                ⟨some 104, .pick (.t 100) (.t 103) (.b false), none⟩,
                ⟨some 105, .mv (.t 104), none⟩,
                ⟨some 106, .fa 3 (.t 9), some (105, true)⟩,
                ⟨some 107, .ld false 1 (.t 106), some (105, true)⟩,
                ⟨some 108, .fa 3 (.t 10), some (105, true)⟩,
                ⟨some 109, .ld false 1 (.t 108), some (105, true)⟩,
                ⟨some 110, .bin .eql (.t 107) (.t 109), some (105, true)⟩,
                ⟨some 111, .pick (.t 105) (.t 110) (.b false), none⟩,
                ⟨some 112, .mv (.t 111), none⟩,
                ⟨some 113, .ld true 6 (.t 9), some (112, true)⟩,
                ⟨some 114, .ld true 6 (.t 10), some (112, true)⟩,
                ⟨some 115, .call 179 [(.t 113), (.t 114)], some (112, true)⟩,
                ⟨some 116, .pick (.t 112) (.t 115) (.b false), none⟩,
                ⟨some 117, .mv (.t 116), none⟩,
                ⟨some 118, .mv (.t 0), some (117, true)⟩,
                ⟨some 119, .mv (.t 1), some (117, true)⟩,
                ⟨some 120, .mv (.t 2), some (117, true)⟩,
                ⟨some 121, .call 177 [(.t 118), (.t 119), (.t 120), (.i 1)], some (117, true)⟩,
                ⟨some 122, .pick (.t 117) (.t 121) (.b false), none⟩,
                ⟨some 8, .mv (.t 122), none⟩])
              (.ret))
              (.skip)))))))))))))
  (.seq (.reg [⟨some 8, .mv (.b false), none⟩])
  (.ret))))⟩

set_option maxHeartbeats 4000000 in
theorem does127 (as : List AV) (hok : ok 64 as) : Does tb127 af127 conFirst as := by
  cases h : (conFirst).run as with
  | none => exact does_none h
  | some out =>
    have h' := h
    simp only [conFirst] at h'
    split at h'
    · rename_i l k i c
      by_cases hp : 0 ≤ k ∧ k < i ∧ i < l.length
      case neg => simp [guardP, hp] at h'
      rw [guardP_pos hp] at h'
      obtain ⟨hp1, hp2, hp3⟩ := hp
      simp only [ok] at hok
      obtain ⟨⟨hlen, _⟩, _⟩ := hok
      simp only [Option.some.injEq] at h'
      subst h'
      have hmo : (most : Int) = 1099511627776 := rfl
      have hml : (maxLen : Int) = 9223372036854775807 := rfl
      with_reducible refine does_by h fun Q hQ => ?_
      clear h
      dsimp only [af127, conFirst, go_sem, Nat.reduceAdd, Nat.reduceMul, Nat.reduceSub, Nat.reduceBEq, Nat.reduceLeDiff, Nat.reduceEqDiff, ↓dreduceIte, toG, tb127_128, tb127_177, tb127_178, tb127_179, conLast, conLeast, conQuiet, conTold]
      repeat' first
        | with_reducible refine kon_seq ?_
        | with_reducible refine kon_nil ?_
        | with_reducible refine kon_any ?_ ?_
        | with_reducible exact kon_any_nil
        | with_reducible refine kon_skip ?_
        | with_reducible refine kon_block ?_
        | with_reducible refine kon_ret ?_
        | with_reducible refine kon_exit ?_
        | with_reducible refine kon_past_ret ?_
        | with_reducible refine kon_past_exit ?_
        | with_reducible refine kon_blk_ret ?_
        | with_reducible refine kon_blk_end ?_
        | with_reducible refine kon_blk_exit ?_
        | (with_reducible refine kon_blk_past ?_ ?_
           · decide)
        | with_reducible refine loop_exit ?_
        | with_reducible refine loop_ret ?_
        | with_reducible refine mid_exit ?_
        | with_reducible refine mid_ret ?_
        | ((first | with_reducible refine kon_bin fun R hR => ?_ | with_reducible refine kon_conv fun R hR => ?_)
           dsimp only [go_sem, Nat.reduceAdd, Nat.reduceMul, Nat.reduceSub, Nat.reduceBEq, Nat.reduceLeDiff, Nat.reduceEqDiff, ↓dreduceIte, toG, tb127_128, tb127_177, tb127_178, tb127_179, conLast, conLeast, conQuiet, conTold]
           try simp (disch := first | omega | (simp only [List.length_set, List.length_append, List.length_cons, List.length_nil, List.length_replicate]; omega)) only [guardP_T, guardP_pos, iteN, rd_set, List.set_set, List.length_set, eta_fact, eta_rumor, eta_doubt, eta_item, eta_rec, eta_due, look, look0, rd_toNat, wrap64, Int.toNat_natCast, Nat.zero_add, List.take_length, List.drop_zero, and_self, setB_len, true_and, and_true]
           with_reducible refine hR _ ?_
           clear hR R)
        | (with_reducible refine kon_ins fun R hR => ?_
           dsimp only [go_sem, Nat.reduceAdd, Nat.reduceMul, Nat.reduceSub, Nat.reduceBEq, Nat.reduceLeDiff, Nat.reduceEqDiff, ↓dreduceIte, toG, tb127_128, tb127_177, tb127_178, tb127_179, conLast, conLeast, conQuiet, conTold]
           first
             | with_reducible refine hR _ ?_
             | (simp (disch := first | omega | (simp only [List.length_set, List.length_append, List.length_cons, List.length_nil, List.length_replicate]; omega)) only [guardP_T, guardP_pos, iteN, rd_set, List.set_set, List.length_set, eta_fact, eta_rumor, eta_doubt, eta_item, eta_rec, eta_due, look, look0, rd_toNat, wrap64, Int.toNat_natCast, Nat.zero_add, List.take_length, List.drop_zero, and_self, setB_len, true_and, and_true]
                try dsimp only [go_sem, Nat.reduceAdd, Nat.reduceMul, Nat.reduceSub, Nat.reduceBEq, Nat.reduceLeDiff, Nat.reduceEqDiff, ↓dreduceIte, toG, tb127_128, tb127_177, tb127_178, tb127_179, conLast, conLeast, conQuiet, conTold]
                try simp (disch := first | omega | (simp only [List.length_set, List.length_append, List.length_cons, List.length_nil, List.length_replicate]; omega)) only [guardP_T, guardP_pos, iteN, rd_set, List.set_set, List.length_set, eta_fact, eta_rumor, eta_doubt, eta_item, eta_rec, eta_due, look, look0, rd_toNat, wrap64, Int.toNat_natCast, Nat.zero_add, List.take_length, List.drop_zero, and_self, setB_len, true_and, and_true]
                with_reducible refine hR _ ?_)
           clear hR R)
        | (with_reducible refine kon_g_run ?_ ?_
           · dsimp only [nth] <;> with_reducible rfl)
        | (with_reducible refine kon_g_skip ?_ ?_
           · dsimp only [nth, not_t', not_f'] <;> with_reducible rfl
           dsimp only [go_sem])
        | (with_reducible refine kon_g_undef ?_ ?_
           · dsimp only [nth] <;> with_reducible rfl
           dsimp only [go_sem])
        | (with_reducible refine kon_g fun R hR => ?_
           dsimp only [go_sem, Nat.reduceAdd, Nat.reduceMul, Nat.reduceSub, Nat.reduceBEq, Nat.reduceLeDiff, Nat.reduceEqDiff, ↓dreduceIte, toG, tb127_128, tb127_177, tb127_178, tb127_179, conLast, conLeast, conQuiet, conTold]
           split <;> (rename_i hb; with_reducible refine hR _ ?_; clear hR R; try simp only [hb]; try simp only [decide_eq_true_eq, decide_eq_false_iff_not, beq_iff_eq, beq_eq_false_iff_ne, bne_iff_ne, bne_eq_false_iff_eq, Bool.not_eq_true, Bool.not_eq_false, Bool.not_eq_eq_eq_not, Bool.not_true, Bool.not_false, ne_eq, Int.not_lt, Int.not_le, eq_self, not_true_eq_false, not_false_eq_true, decide_true, decide_false, Bool.and_eq_true, Bool.or_eq_true, Bool.and_eq_false_iff, Bool.or_eq_false_iff, gt_iff_lt, ge_iff_le, Bool.false_eq_true, Bool.true_eq_false, reduceCtorEq, or_false, false_or, or_true, true_or, false_and, and_false] at hb; try (exfalso; omega)))
        | (with_reducible refine kon_cond fun R1 R2 h1 h2 => ?_
           dsimp only [go_sem]
           first
             | (with_reducible refine h1 ?_; clear h1 h2 R1 R2)
             | (with_reducible refine h2 ?_; clear h1 h2 R1 R2)
             | ((split <;> rename_i hb <;> first
                 | (with_reducible refine h1 ?_; clear h1 h2 R1 R2; try simp only [hb])
                 | (with_reducible refine h2 ?_; clear h1 h2 R1 R2; try simp only [hb])) <;> (try simp only [decide_eq_true_eq, decide_eq_false_iff_not, beq_iff_eq, beq_eq_false_iff_ne, bne_iff_ne, bne_eq_false_iff_eq, Bool.not_eq_true, Bool.not_eq_false, Bool.not_eq_eq_eq_not, Bool.not_true, Bool.not_false, ne_eq, Int.not_lt, Int.not_le, eq_self, not_true_eq_false, not_false_eq_true, decide_true, decide_false, Bool.and_eq_true, Bool.or_eq_true, Bool.and_eq_false_iff, Bool.or_eq_false_iff, gt_iff_lt, ge_iff_le, Bool.false_eq_true, Bool.true_eq_false, reduceCtorEq, or_false, false_or, or_true, true_or, false_and, and_false] at hb; try (exfalso; omega))))
      all_goals first
        | (dsimp only [kon]
           with_reducible refine hQ _ _ _ ?_
           dsimp only [kon, endQ, af127, conFirst, go_sem, Nat.reduceAdd, Nat.reduceMul, Nat.reduceSub, Nat.reduceBEq, Nat.reduceLeDiff, Nat.reduceEqDiff, ↓dreduceIte, toG, tb127_128, tb127_177, tb127_178, tb127_179, conLast, conLeast, conQuiet, conTold]
           try simp (disch := first | omega | (simp only [List.length_set, List.length_append, List.length_cons, List.length_nil, List.length_replicate]; omega)) only [guardP_T, guardP_pos, iteN, rd_set, List.set_set, List.length_set, eta_fact, eta_rumor, eta_doubt, eta_item, eta_rec, eta_due, look, look0, rd_toNat, wrap64, Int.toNat_natCast, Nat.zero_add, List.take_length, List.drop_zero, and_self, setB_len, true_and, and_true]
           try dsimp only [go_sem, Nat.reduceAdd, Nat.reduceMul, Nat.reduceSub, Nat.reduceBEq, Nat.reduceLeDiff, Nat.reduceEqDiff, ↓dreduceIte, toG, tb127_128, tb127_177, tb127_178, tb127_179, conLast, conLeast, conQuiet, conTold])
        | skip
      all_goals try first
        | omega
        | (simp; done)
        | (simp; omega)
      all_goals first
        | (simp_all [firstS, sameP, bornP, riseP]; done)
        | (subst_vars
           simp [firstS, sameP, bornP, riseP, *]
           done)
        | (subst_vars
           simp [firstS, sameP, bornP, riseP, *]
           omega)
    · simp at h'

end Go.Proofs.Ytnghlmogcbmlfaa
