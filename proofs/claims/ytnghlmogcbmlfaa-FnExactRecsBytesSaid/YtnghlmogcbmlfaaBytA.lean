/- Numbers in bytes. -/
import Derived.Test.YtnghlmogcbmlfaaRecsA
namespace Go.Proofs.Ytnghlmogcbmlfaa
set_option linter.unusedVariables false
set_option linter.unusedSimpArgs false
set_option linter.unnecessarySimpa false

theorem wrapU8 (x : Int) : IntKind.u8.wrap x = x % 256 := by
  simp [IntKind.wrap, IntKind.signed, IntKind.bits]

theorem wrapU64 {x : Int} (h0 : 0 ≤ x) (h1 : x < 18446744073709551616) : IntKind.u64.wrap x = x := by
  simp only [IntKind.wrap, IntKind.signed, IntKind.bits]
  simp
  omega

theorem tdivP {a b : Int} (h : 0 ≤ a) : a.tdiv b = a / b := Int.tdiv_eq_ediv_of_nonneg h
theorem tmodP {a b : Int} (h : 0 ≤ a) : a.tmod b = a % b := Int.tmod_eq_emod_of_nonneg h

theorem shl1 (x : Int) : IntKind.u64.wrap (IntKind.u64.wrap x * 2 ^ min (Int.toNat 1) 64) = (2 * x) % 18446744073709551616 := by
  simp [IntKind.wrap, IntKind.signed, IntKind.bits]
  omega

theorem shr7 (x : Int) : x.fdiv (2 ^ min (Int.toNat 7) 64) = x / 128 := by
  rw [show (2 : Int) ^ min (Int.toNat 7) 64 = 128 by decide]
  exact Int.fdiv_eq_ediv_of_nonneg _ (by decide)

theorem not64' {x : Int} (h0 : 0 ≤ x) (h1 : x < 18446744073709551616) : IntKind.u64.wrap ↑(BitVec.ofInt 64 (if IntKind.u64.signed = true then -1 else IntKind.u64.max) ^^^ BitVec.ofInt 64 x).toNat = 18446744073709551615 - x := by
  have e : BitVec.ofInt 64 (if IntKind.u64.signed = true then -1 else IntKind.u64.max) = BitVec.allOnes 64 := by decide
  rw [e, BitVec.allOnes_xor, BitVec.toNat_not, BitVec.toNat_ofInt, wrapU64 (by omega) (by omega)]
  omega

/-- As the walk meets it: the width lies unreduced in the operation's instance. -/
theorem not64 {x : Int} (h0 : 0 ≤ x) (h1 : x < 18446744073709551616) : IntKind.u64.wrap ((@BitVec.toNat 64 (@HXor.hXor (BitVec 64) (BitVec 64) (BitVec 64) (@instHXorOfXorOp (BitVec IntKind.u64.bits) (@BitVec.instXorOp IntKind.u64.bits)) (BitVec.ofInt 64 (if IntKind.u64.signed = true then -1 else IntKind.u64.max)) (BitVec.ofInt 64 x)) : Nat) : Int) = 18446744073709551615 - x := not64' h0 h1

set_option maxRecDepth 20000 in
theorem or128N : ∀ y : Fin 256, (BitVec.ofNat 8 y.val ||| 128#8).toNat = y.val % 128 + 128 := by decide

theorem or128' (x : Int) : ((BitVec.ofInt 8 (x % 256) ||| BitVec.ofInt 8 128).toNat : Int) = x % 128 + 128 := by
  have h := or128N ⟨(x % 256).toNat, by omega⟩
  have e1 : BitVec.ofInt 8 (x % 256) = BitVec.ofNat 8 (x % 256).toNat := by
    apply BitVec.eq_of_toNat_eq
    rw [BitVec.toNat_ofInt, BitVec.toNat_ofNat]
    omega
  have e2 : BitVec.ofInt 8 128 = 128#8 := by decide
  rw [e1, e2, h]
  simp only []
  omega

theorem or128 (x : Int) : ((@BitVec.toNat 8 (@HOr.hOr (BitVec 8) (BitVec 8) (BitVec 8) (@instHOrOfOrOp (BitVec IntKind.u8.bits) (@BitVec.instOrOp IntKind.u8.bits)) (BitVec.ofInt 8 (x % 256)) (BitVec.ofInt 8 128)) : Nat) : Int) = x % 128 + 128 := or128' x

/-- A number without its sign. -/
def foldN (n : Int) : Int := if n < 0 then -2 * n - 1 else 2 * n

def b8 (x : Int) : UInt8 := UInt8.ofNat x.toNat

def putL : Nat → Int → List UInt8
  | 0, _ => []
  | k + 1, u => if 128 ≤ u then b8 (u % 128 + 128) :: putL k (u / 128) else [b8 u]

def putB (n : Int) : List UInt8 := putL 10 (foldN n)

theorem foldN_bd {n : Int} (h0 : -9223372036854775808 ≤ n) (h1 : n ≤ 9223372036854775807) : 0 ≤ foldN n ∧ foldN n < 18446744073709551616 := by
  unfold foldN
  split <;> omega

theorem pow_bd {u : Int} (h : u < 18446744073709551616) : u < 128 ^ (10 - ([] : List UInt8).length) := by
  have : (128 : Int) ^ (10 - ([] : List UInt8).length) = 1180591620717411303424 := by decide
  omega

theorem pow_step {u : Int} {m : Nat} (h : u < 128 ^ (m + 1)) : u / 128 < 128 ^ m := by
  rw [Int.pow_succ] at h
  omega

theorem pow_step' {u : Int} {o : List UInt8} {x : UInt8} (h0 : 128 ≤ u) (ho : o.length ≤ 9) (h : u < 128 ^ (10 - o.length)) : (o ++ [x]).length ≤ 9 ∧ u / 128 < 128 ^ (10 - (o ++ [x]).length) := by
  by_cases e : o.length = 9
  · rw [e] at h
    have : (128 : Int) ^ (10 - 9) = 128 := by decide
    omega
  · rw [show 10 - o.length = (9 - o.length) + 1 by omega] at h
    have h2 := pow_step h
    simp only [List.length_append, List.length_cons, List.length_nil]
    rw [show 10 - (o.length + (0 + 1)) = 9 - o.length by omega]
    exact ⟨by omega, h2⟩

theorem putL_more {u : Int} {o : List UInt8} {x : UInt8} (hx : x = b8 (u % 128 + 128)) (h0 : 128 ≤ u) (ho : o.length ≤ 9) (h : u < 128 ^ (10 - o.length)) : (o ++ [x]) ++ putL (10 - (o ++ [x]).length) (u / 128) = o ++ putL (10 - o.length) u := by
  have h1 := (pow_step' (x := x) h0 ho h).1
  simp only [List.length_append, List.length_cons, List.length_nil] at h1 ⊢
  rw [show 10 - o.length = (10 - (o.length + (0 + 1))) + 1 by omega, putL, if_pos h0, hx]
  simp

theorem putL_last {u : Int} {o : List UInt8} (h0 : u < 128) (ho : o.length ≤ 9) : putL (10 - o.length) u = [b8 u] := by
  rw [show 10 - o.length = (9 - o.length) + 1 by omega, putL, if_neg (by omega)]

def conPut : Con := ⟨[.v], .v, fun as => match as with
  | [.int .i64 n] => guardP (-9223372036854775808 ≤ n ∧ n ≤ 9223372036854775807) (some (.str ⟨(putB n).toArray⟩, []))
  | _ => none⟩

def conFold : Con := ⟨[.v], .v, fun as => match as with
  | [.int .i64 n] => guardP (-9223372036854775808 ≤ n ∧ n ≤ 9223372036854775807) (some (.int .u64 (foldN n), []))
  | _ => none⟩

-- loop.example/g00678/spec.l01Fold hows []
def af199 : AF := ⟨14, [.t 2],
  .seq (.reg [⟨some 2, .mv (.c (.int .u64 0)), none⟩])
  (.seq (.seq (.reg [⟨some 3, .mv (.t 0), none⟩,
    ⟨some 4, .bin .lss (.t 3) (.i 0), none⟩])
  (.cond (.t 4)
    (.seq (.reg [⟨some 5, .mv (.t 0), none⟩,
      ⟨some 6, .bin .add (.t 5) (.i 1), none⟩,
      ⟨some 7, .un .neg (.t 6), none⟩,
      ⟨some 8, .conv .u64 (.t 7), none⟩,
      ⟨some 9, .bin .mul (.c (.int .u64 2)) (.t 8), none⟩,
      ⟨some 10, .bin .add (.t 9) (.c (.int .u64 1)), none⟩,
      ⟨some 2, .mv (.t 10), none⟩])
    (.ret))
    (.skip)))
  (.seq (.reg [⟨some 11, .mv (.t 0), none⟩,
    ⟨some 12, .conv .u64 (.t 11), none⟩,
    ⟨some 13, .bin .mul (.c (.int .u64 2)) (.t 12), none⟩,
    ⟨some 2, .mv (.t 13), none⟩])
  (.ret)))⟩

set_option maxHeartbeats 4000000 in
theorem does199 (as : List AV) (hok : ok 64 as) : Does tbNone af199 conFold as := by
  cases h : (conFold).run as with
  | none => exact does_none h
  | some out =>
    have h' := h
    simp only [conFold] at h'
    split at h'
    · rename_i n
      by_cases hp : -9223372036854775808 ≤ n ∧ n ≤ 9223372036854775807
      case neg => simp [guardP, hp] at h'
      rw [guardP_pos hp] at h'
      obtain ⟨hp1, hp2⟩ := hp
      simp only [Option.some.injEq] at h'
      subst h'
      have hmo : (most : Int) = 1099511627776 := rfl
      have hml : (maxLen : Int) = 9223372036854775807 := rfl
      with_reducible refine does_by h fun Q hQ => ?_
      clear h
      dsimp only [af199, conFold, go_sem, Nat.reduceAdd, Nat.reduceMul, Nat.reduceSub, Nat.reduceBEq, Nat.reduceLeDiff, Nat.reduceEqDiff, ↓dreduceIte, toG]
      repeat' first
        | with_reducible refine kon_seq ?_
        | with_reducible refine kon_nil ?_
        | with_reducible refine kon_any ?_ ?_
        | with_reducible exact kon_any_nil
        | with_reducible refine kon_skip ?_
        | with_reducible refine kon_block ?_
        | with_reducible refine kon_ret ?_
        | with_reducible refine kon_exit ?_
        | with_reducible refine kon_past_ret ?_
        | with_reducible refine kon_past_exit ?_
        | with_reducible refine kon_blk_ret ?_
        | with_reducible refine kon_blk_end ?_
        | with_reducible refine kon_blk_exit ?_
        | (with_reducible refine kon_blk_past ?_ ?_
           · decide)
        | with_reducible refine loop_exit ?_
        | with_reducible refine loop_ret ?_
        | with_reducible refine mid_exit ?_
        | with_reducible refine mid_ret ?_
        | (with_reducible refine kon_bin fun R hR => ?_
           dsimp only [go_sem, Nat.reduceAdd, Nat.reduceMul, Nat.reduceSub, Nat.reduceBEq, Nat.reduceLeDiff, Nat.reduceEqDiff, ↓dreduceIte, toG]
           try simp (disch := first | omega | (simp only [List.length_set, List.length_append, List.length_cons, List.length_nil, List.length_replicate]; omega)) only [guardP_T, guardP_pos, iteN, rd_set, List.set_set, List.length_set, eta_fact, eta_rumor, eta_doubt, eta_item, eta_rec, eta_due, look, look0, rd_toNat, wrap64, Int.toNat_natCast, Nat.zero_add, List.take_length, List.drop_zero, and_self, setB_len, true_and, and_true, wrapU64]
           with_reducible refine hR _ ?_
           clear hR R)
        | (with_reducible refine kon_conv fun R hR => ?_
           dsimp only [go_sem, Nat.reduceAdd, Nat.reduceMul, Nat.reduceSub, Nat.reduceBEq, Nat.reduceLeDiff, Nat.reduceEqDiff, ↓dreduceIte, toG]
           try simp (disch := first | omega | (simp only [List.length_set, List.length_append, List.length_cons, List.length_nil, List.length_replicate]; omega)) only [guardP_T, guardP_pos, iteN, rd_set, List.set_set, List.length_set, eta_fact, eta_rumor, eta_doubt, eta_item, eta_rec, eta_due, look, look0, rd_toNat, wrap64, Int.toNat_natCast, Nat.zero_add, List.take_length, List.drop_zero, and_self, setB_len, true_and, and_true, wrapU64]
           with_reducible refine hR _ ?_
           clear hR R)
        | (with_reducible refine kon_ins fun R hR => ?_
           dsimp only [go_sem, Nat.reduceAdd, Nat.reduceMul, Nat.reduceSub, Nat.reduceBEq, Nat.reduceLeDiff, Nat.reduceEqDiff, ↓dreduceIte, toG]
           first
             | with_reducible refine hR _ ?_
             | (simp (disch := first | omega | (simp only [List.length_set, List.length_append, List.length_cons, List.length_nil, List.length_replicate]; omega)) only [guardP_T, guardP_pos, iteN, rd_set, List.set_set, List.length_set, eta_fact, eta_rumor, eta_doubt, eta_item, eta_rec, eta_due, look, look0, rd_toNat, wrap64, Int.toNat_natCast, Nat.zero_add, List.take_length, List.drop_zero, and_self, setB_len, true_and, and_true, wrapU64]
                try dsimp only [go_sem, Nat.reduceAdd, Nat.reduceMul, Nat.reduceSub, Nat.reduceBEq, Nat.reduceLeDiff, Nat.reduceEqDiff, ↓dreduceIte, toG]
                try simp (disch := first | omega | (simp only [List.length_set, List.length_append, List.length_cons, List.length_nil, List.length_replicate]; omega)) only [guardP_T, guardP_pos, iteN, rd_set, List.set_set, List.length_set, eta_fact, eta_rumor, eta_doubt, eta_item, eta_rec, eta_due, look, look0, rd_toNat, wrap64, Int.toNat_natCast, Nat.zero_add, List.take_length, List.drop_zero, and_self, setB_len, true_and, and_true, wrapU64]
                with_reducible refine hR _ ?_)
           clear hR R)
        | (with_reducible refine kon_g_run ?_ ?_
           · dsimp only [nth] <;> with_reducible rfl)
        | (with_reducible refine kon_g_skip ?_ ?_
           · dsimp only [nth, not_t', not_f'] <;> with_reducible rfl
           dsimp only [go_sem])
        | (with_reducible refine kon_g_undef ?_ ?_
           · dsimp only [nth] <;> with_reducible rfl
           dsimp only [go_sem])
        | (with_reducible refine kon_g fun R hR => ?_
           dsimp only [go_sem, Nat.reduceAdd, Nat.reduceMul, Nat.reduceSub, Nat.reduceBEq, Nat.reduceLeDiff, Nat.reduceEqDiff, ↓dreduceIte, toG]
           split <;> (rename_i hb; with_reducible refine hR _ ?_; clear hR R; try simp only [hb]; try simp only [decide_eq_true_eq, decide_eq_false_iff_not, beq_iff_eq, beq_eq_false_iff_ne, bne_iff_ne, bne_eq_false_iff_eq, Bool.not_eq_true, Bool.not_eq_false, Bool.not_eq_eq_eq_not, Bool.not_true, Bool.not_false, ne_eq, Int.not_lt, Int.not_le, eq_self, not_true_eq_false, not_false_eq_true, decide_true, decide_false, Bool.and_eq_true, Bool.or_eq_true, Bool.and_eq_false_iff, Bool.or_eq_false_iff, gt_iff_lt, ge_iff_le, Bool.false_eq_true, Bool.true_eq_false, reduceCtorEq, or_false, false_or, or_true, true_or, false_and, and_false, wrapU64] at hb; try (exfalso; omega)))
        | (with_reducible refine kon_cond fun R1 R2 h1 h2 => ?_
           dsimp only [go_sem]
           first
             | (with_reducible refine h1 ?_; clear h1 h2 R1 R2)
             | (with_reducible refine h2 ?_; clear h1 h2 R1 R2)
             | (split <;> rename_i hb <;> first
                 | (with_reducible refine h1 ?_; clear h1 h2 R1 R2; try simp only [hb]; try simp only [decide_eq_true_eq, decide_eq_false_iff_not, beq_iff_eq, beq_eq_false_iff_ne, bne_iff_ne, bne_eq_false_iff_eq, Bool.not_eq_true, Bool.not_eq_false, Bool.not_eq_eq_eq_not, Bool.not_true, Bool.not_false, ne_eq, Int.not_lt, Int.not_le, eq_self, not_true_eq_false, not_false_eq_true, decide_true, decide_false, Bool.and_eq_true, Bool.or_eq_true, Bool.and_eq_false_iff, Bool.or_eq_false_iff, gt_iff_lt, ge_iff_le, Bool.false_eq_true, Bool.true_eq_false, reduceCtorEq, or_false, false_or, or_true, true_or, false_and, and_false, wrapU64] at hb; try (exfalso; omega))
                 | (with_reducible refine h2 ?_; clear h1 h2 R1 R2; try simp only [hb]; try simp only [decide_eq_true_eq, decide_eq_false_iff_not, beq_iff_eq, beq_eq_false_iff_ne, bne_iff_ne, bne_eq_false_iff_eq, Bool.not_eq_true, Bool.not_eq_false, Bool.not_eq_eq_eq_not, Bool.not_true, Bool.not_false, ne_eq, Int.not_lt, Int.not_le, eq_self, not_true_eq_false, not_false_eq_true, decide_true, decide_false, Bool.and_eq_true, Bool.or_eq_true, Bool.and_eq_false_iff, Bool.or_eq_false_iff, gt_iff_lt, ge_iff_le, Bool.false_eq_true, Bool.true_eq_false, reduceCtorEq, or_false, false_or, or_true, true_or, false_and, and_false, wrapU64] at hb; try (exfalso; omega))))
      all_goals first
        | (dsimp only [kon]
           with_reducible refine hQ _ _ _ ?_
           dsimp only [kon, endQ, af199, conFold, go_sem, Nat.reduceAdd, Nat.reduceMul, Nat.reduceSub, Nat.reduceBEq, Nat.reduceLeDiff, Nat.reduceEqDiff, ↓dreduceIte, toG]
           try simp (disch := first | omega | (simp only [List.length_set, List.length_append, List.length_cons, List.length_nil, List.length_replicate]; omega)) only [guardP_T, guardP_pos, iteN, rd_set, List.set_set, List.length_set, eta_fact, eta_rumor, eta_doubt, eta_item, eta_rec, eta_due, look, look0, rd_toNat, wrap64, Int.toNat_natCast, Nat.zero_add, List.take_length, List.drop_zero, and_self, setB_len, true_and, and_true]
           try dsimp only [go_sem, Nat.reduceAdd, Nat.reduceMul, Nat.reduceSub, Nat.reduceBEq, Nat.reduceLeDiff, Nat.reduceEqDiff, ↓dreduceIte, toG])
        | skip
      all_goals try first
        | omega
        | (simp; done)
        | (simp; omega)
      all_goals first
        | omega
        | (simp [foldN]; omega)
    · simp at h'

def tb138 : Tab := fun f => match f with
  | 199 => some conFold
  | _ => none

theorem tb138_199 : tb138 199 = some conFold := rfl

-- loop.example/g00678/spec.PutNum hows []
def lp138_0 : AC := .seq (.seq (.reg [⟨some 8, .mv (.t 3), none⟩,
        ⟨some 9, .bin .geq (.t 8) (.c (.int .u64 128)), none⟩])
      (.cond (.t 9)
        (.skip)
        (.exit 0)))
      (.block 1 (.seq (.reg [⟨some 10, .mv (.t 4), none⟩,
          ⟨some 11, .mv (.t 3), none⟩,
          ⟨some 12, .bin .rem (.t 11) (.c (.int .u64 128)), none⟩,
          ⟨some 13, .bin .add (.t 12) (.c (.int .u64 128)), none⟩,
          ⟨some 14, .conv .u8 (.t 13), none⟩,
          ⟨some 15, .slit .u8 [(.t 14)], none⟩,
          ⟨some 16, .app .u8 (.t 10) (.t 15), none⟩,
          ⟨some 4, .mv (.t 16), none⟩])
        (.reg [⟨some 17, .mv (.t 3), none⟩,
          ⟨some 18, .bin .quo (.t 17) (.c (.int .u64 128)), none⟩,
          ⟨some 3, .mv (.t 18), none⟩])))
def af138 : AF := ⟨25, [.t 2],
  .seq (.reg [⟨some 2, .mv (.c (.str ⟨#[]⟩)), none⟩])
  (.seq (.reg [⟨some 5, .mv (.t 0), none⟩,
    ⟨some 6, .call 199 [(.t 5)], none⟩,
    ⟨some 3, .mv (.t 6), none⟩])
  (.seq (.reg [⟨some 7, .slit .u8 [], none⟩,
    ⟨some 4, .mv (.t 7), none⟩])
  (.seq (.block 0 (.loop lp138_0))
  (.seq (.reg [⟨some 19, .mv (.t 4), none⟩,
    ⟨some 20, .mv (.t 3), none⟩,
    ⟨some 21, .conv .u8 (.t 20), none⟩,
    ⟨some 22, .slit .u8 [(.t 21)], none⟩,
    ⟨some 23, .app .u8 (.t 19) (.t 22), none⟩,
    ⟨some 24, .b2s (.t 23), none⟩,
    ⟨some 2, .mv (.t 24), none⟩])
  (.ret)))))⟩

set_option maxHeartbeats 4000000 in
theorem does138 (as : List AV) (hok : ok 64 as) : Does tb138 af138 conPut as := by
  cases h : (conPut).run as with
  | none => exact does_none h
  | some out =>
    have h' := h
    simp only [conPut] at h'
    split at h'
    · rename_i n
      by_cases hp : -9223372036854775808 ≤ n ∧ n ≤ 9223372036854775807
      case neg => simp [guardP, hp] at h'
      rw [guardP_pos hp] at h'
      obtain ⟨hp1, hp2⟩ := hp
      have hfb := foldN_bd hp1 hp2
      simp only [Option.some.injEq] at h'
      subst h'
      have hmo : (most : Int) = 1099511627776 := rfl
      have hml : (maxLen : Int) = 9223372036854775807 := rfl
      with_reducible refine does_by h fun Q hQ => ?_
      clear h
      dsimp only [af138, conPut, go_sem, Nat.reduceAdd, Nat.reduceMul, Nat.reduceSub, Nat.reduceBEq, Nat.reduceLeDiff, Nat.reduceEqDiff, ↓dreduceIte, toG, tb138_199, conFold]
      repeat' first
        | with_reducible refine kon_seq ?_
        | with_reducible refine kon_nil ?_
        | with_reducible refine kon_any ?_ ?_
        | with_reducible exact kon_any_nil
        | with_reducible refine kon_skip ?_
        | with_reducible refine kon_block ?_
        | with_reducible refine kon_ret ?_
        | with_reducible refine kon_exit ?_
        | with_reducible refine kon_past_ret ?_
        | with_reducible refine kon_past_exit ?_
        | with_reducible refine kon_blk_ret ?_
        | with_reducible refine kon_blk_end ?_
        | with_reducible refine kon_blk_exit ?_
        | (with_reducible refine kon_blk_past ?_ ?_
           · decide)
        | with_reducible refine loop_exit ?_
        | with_reducible refine loop_ret ?_
        | with_reducible refine mid_exit ?_
        | with_reducible refine mid_ret ?_
        | (with_reducible refine kon_bin fun R hR => ?_
           dsimp only [go_sem, Nat.reduceAdd, Nat.reduceMul, Nat.reduceSub, Nat.reduceBEq, Nat.reduceLeDiff, Nat.reduceEqDiff, ↓dreduceIte, toG, tb138_199, conFold]
           try simp (disch := first | omega | (simp only [List.length_set, List.length_append, List.length_cons, List.length_nil, List.length_replicate]; omega)) only [guardP_T, guardP_pos, iteN, rd_set, List.set_set, List.length_set, eta_fact, eta_rumor, eta_doubt, eta_item, eta_rec, eta_due, look, look0, rd_toNat, wrap64, Int.toNat_natCast, Nat.zero_add, List.take_length, List.drop_zero, and_self, setB_len, true_and, and_true, wrapU8, wrapU64, tdivP, tmodP]
           with_reducible refine hR _ ?_
           clear hR R)
        | (with_reducible refine kon_conv fun R hR => ?_
           dsimp only [go_sem, Nat.reduceAdd, Nat.reduceMul, Nat.reduceSub, Nat.reduceBEq, Nat.reduceLeDiff, Nat.reduceEqDiff, ↓dreduceIte, toG, tb138_199, conFold]
           try simp (disch := first | omega | (simp only [List.length_set, List.length_append, List.length_cons, List.length_nil, List.length_replicate]; omega)) only [guardP_T, guardP_pos, iteN, rd_set, List.set_set, List.length_set, eta_fact, eta_rumor, eta_doubt, eta_item, eta_rec, eta_due, look, look0, rd_toNat, wrap64, Int.toNat_natCast, Nat.zero_add, List.take_length, List.drop_zero, and_self, setB_len, true_and, and_true, wrapU8, wrapU64, tdivP, tmodP]
           with_reducible refine hR _ ?_
           clear hR R)
        | (with_reducible refine kon_ins fun R hR => ?_
           dsimp only [go_sem, Nat.reduceAdd, Nat.reduceMul, Nat.reduceSub, Nat.reduceBEq, Nat.reduceLeDiff, Nat.reduceEqDiff, ↓dreduceIte, toG, tb138_199, conFold]
           first
             | with_reducible refine hR _ ?_
             | (simp (disch := first | omega | (simp only [List.length_set, List.length_append, List.length_cons, List.length_nil, List.length_replicate]; omega)) only [guardP_T, guardP_pos, iteN, rd_set, List.set_set, List.length_set, eta_fact, eta_rumor, eta_doubt, eta_item, eta_rec, eta_due, look, look0, rd_toNat, wrap64, Int.toNat_natCast, Nat.zero_add, List.take_length, List.drop_zero, and_self, setB_len, true_and, and_true, wrapU8, wrapU64, tdivP, tmodP]
                try dsimp only [go_sem, Nat.reduceAdd, Nat.reduceMul, Nat.reduceSub, Nat.reduceBEq, Nat.reduceLeDiff, Nat.reduceEqDiff, ↓dreduceIte, toG, tb138_199, conFold]
                try simp (disch := first | omega | (simp only [List.length_set, List.length_append, List.length_cons, List.length_nil, List.length_replicate]; omega)) only [guardP_T, guardP_pos, iteN, rd_set, List.set_set, List.length_set, eta_fact, eta_rumor, eta_doubt, eta_item, eta_rec, eta_due, look, look0, rd_toNat, wrap64, Int.toNat_natCast, Nat.zero_add, List.take_length, List.drop_zero, and_self, setB_len, true_and, and_true, wrapU8, wrapU64, tdivP, tmodP]
                with_reducible refine hR _ ?_)
           clear hR R)
        | (with_reducible refine kon_g_run ?_ ?_
           · dsimp only [nth] <;> with_reducible rfl)
        | (with_reducible refine kon_g_skip ?_ ?_
           · dsimp only [nth, not_t', not_f'] <;> with_reducible rfl
           dsimp only [go_sem])
        | (with_reducible refine kon_g_undef ?_ ?_
           · dsimp only [nth] <;> with_reducible rfl
           dsimp only [go_sem])
        | (with_reducible refine kon_g fun R hR => ?_
           dsimp only [go_sem, Nat.reduceAdd, Nat.reduceMul, Nat.reduceSub, Nat.reduceBEq, Nat.reduceLeDiff, Nat.reduceEqDiff, ↓dreduceIte, toG, tb138_199, conFold]
           split <;> (rename_i hb; with_reducible refine hR _ ?_; clear hR R; try simp only [hb]; try simp only [decide_eq_true_eq, decide_eq_false_iff_not, beq_iff_eq, beq_eq_false_iff_ne, bne_iff_ne, bne_eq_false_iff_eq, Bool.not_eq_true, Bool.not_eq_false, Bool.not_eq_eq_eq_not, Bool.not_true, Bool.not_false, ne_eq, Int.not_lt, Int.not_le, eq_self, not_true_eq_false, not_false_eq_true, decide_true, decide_false, Bool.and_eq_true, Bool.or_eq_true, Bool.and_eq_false_iff, Bool.or_eq_false_iff, gt_iff_lt, ge_iff_le, Bool.false_eq_true, Bool.true_eq_false, reduceCtorEq, or_false, false_or, or_true, true_or, false_and, and_false, wrapU8, wrapU64, tdivP, tmodP] at hb; try (exfalso; omega)))
        | (with_reducible refine kon_cond fun R1 R2 h1 h2 => ?_
           dsimp only [go_sem]
           first
             | (with_reducible refine h1 ?_; clear h1 h2 R1 R2)
             | (with_reducible refine h2 ?_; clear h1 h2 R1 R2)
             | (split <;> rename_i hb <;> first
                 | (with_reducible refine h1 ?_; clear h1 h2 R1 R2; try simp only [hb]; try simp only [decide_eq_true_eq, decide_eq_false_iff_not, beq_iff_eq, beq_eq_false_iff_ne, bne_iff_ne, bne_eq_false_iff_eq, Bool.not_eq_true, Bool.not_eq_false, Bool.not_eq_eq_eq_not, Bool.not_true, Bool.not_false, ne_eq, Int.not_lt, Int.not_le, eq_self, not_true_eq_false, not_false_eq_true, decide_true, decide_false, Bool.and_eq_true, Bool.or_eq_true, Bool.and_eq_false_iff, Bool.or_eq_false_iff, gt_iff_lt, ge_iff_le, Bool.false_eq_true, Bool.true_eq_false, reduceCtorEq, or_false, false_or, or_true, true_or, false_and, and_false, wrapU8, wrapU64, tdivP, tmodP] at hb; try (exfalso; omega))
                 | (with_reducible refine h2 ?_; clear h1 h2 R1 R2; try simp only [hb]; try simp only [decide_eq_true_eq, decide_eq_false_iff_not, beq_iff_eq, beq_eq_false_iff_ne, bne_iff_ne, bne_eq_false_iff_eq, Bool.not_eq_true, Bool.not_eq_false, Bool.not_eq_eq_eq_not, Bool.not_true, Bool.not_false, ne_eq, Int.not_lt, Int.not_le, eq_self, not_true_eq_false, not_false_eq_true, decide_true, decide_false, Bool.and_eq_true, Bool.or_eq_true, Bool.and_eq_false_iff, Bool.or_eq_false_iff, gt_iff_lt, ge_iff_le, Bool.false_eq_true, Bool.true_eq_false, reduceCtorEq, or_false, false_or, or_true, true_or, false_and, and_false, wrapU8, wrapU64, tdivP, tmodP] at hb; try (exfalso; omega))))
        | (with_reducible refine kon_rounds (a := lp138_0) [3, 4] (fun n9 s9 => ∃ (u : Int) (o : List UInt8), ((0 ≤ u) ∧ (o.length ≤ 9) ∧ (u < 128 ^ (10 - o.length)) ∧ (o ++ putL (10 - o.length) u = putB n) ∧ (u < 18446744073709551616)) ∧ n9 = u.toNat ∧ s9.m = [.row 0 .u8 o] ∧ s9.t = [nth s9.t 0, nth s9.t 1, nth s9.t 2, .int .u64 u, .ms 0 0 0 o.length, nth s9.t 5, nth s9.t 6, nth s9.t 7, nth s9.t 8, nth s9.t 9, nth s9.t 10, nth s9.t 11, nth s9.t 12, nth s9.t 13, nth s9.t 14, nth s9.t 15, nth s9.t 16, nth s9.t 17, nth s9.t 18, nth s9.t 19, nth s9.t 20, nth s9.t 21, nth s9.t 22, nth s9.t 23, nth s9.t 24]) ?_ ?_
           all_goals first
             | (rintro n9 ⟨t9, m9⟩ ⟨u, o, ⟨hI0, hI1, hI2, hI3, hI4⟩, rfl, hm9, ht9⟩
                dsimp only at hm9 ht9
                subst hm9
                rw [ht9]
                clear ht9
                dsimp only [lp138_0])
             | (dsimp only [go_sem, Nat.reduceAdd, Nat.reduceMul, Nat.reduceSub, Nat.reduceBEq, Nat.reduceLeDiff, Nat.reduceEqDiff, ↓dreduceIte, toG, tb138_199, conFold]
                refine ⟨_, _, _, ⟨?_, ?_, ?_, ?_, ?_⟩, rfl, rfl, rfl⟩))
        | (with_reducible refine loop_again (keep := [3, 4]) ?_
           dsimp only [go_sem, Nat.reduceAdd, Nat.reduceMul, Nat.reduceSub, Nat.reduceBEq, Nat.reduceLeDiff, Nat.reduceEqDiff, ↓dreduceIte, toG, tb138_199, conFold]
           refine ⟨_, ?_, _, _, ⟨?_, ?_, ?_, ?_, ?_⟩, rfl, rfl, rfl⟩)
      all_goals first
        | (dsimp only [kon]
           with_reducible refine hQ _ _ _ ?_
           dsimp only [kon, endQ, af138, conPut, go_sem, Nat.reduceAdd, Nat.reduceMul, Nat.reduceSub, Nat.reduceBEq, Nat.reduceLeDiff, Nat.reduceEqDiff, ↓dreduceIte, toG, tb138_199, conFold]
           try simp (disch := first | omega | (simp only [List.length_set, List.length_append, List.length_cons, List.length_nil, List.length_replicate]; omega)) only [guardP_T, guardP_pos, iteN, rd_set, List.set_set, List.length_set, eta_fact, eta_rumor, eta_doubt, eta_item, eta_rec, eta_due, look, look0, rd_toNat, wrap64, Int.toNat_natCast, Nat.zero_add, List.take_length, List.drop_zero, and_self, setB_len, true_and, and_true]
           try dsimp only [go_sem, Nat.reduceAdd, Nat.reduceMul, Nat.reduceSub, Nat.reduceBEq, Nat.reduceLeDiff, Nat.reduceEqDiff, ↓dreduceIte, toG, tb138_199, conFold])
        | skip
      all_goals try first
        | omega
        | (simp; done)
        | (simp; omega)
      all_goals try simp (disch := omega) only [not64]
      all_goals first
        | omega
        | exact pow_bd (by omega)
        | (exact (pow_step' (u := u) (by omega) hI1 hI2).1)
        | (exact (pow_step' (u := u) (by omega) hI1 hI2).2)
        | (rw [← hI3]; refine putL_more ?_ (by omega) (by omega) hI2; unfold b8; congr 2; omega)
        | (rw [← hI3, putL_last (u := u) (o := o) (by omega) (by omega)]; unfold b8; rw [show u % 256 = u by omega])
        | (simp [putB]; done)
        | (simp only [putB, List.nil_append, List.length_nil, Nat.sub_zero]; congr 1; unfold foldN; split <;> omega)
    · simp at h'

-- loop.example/g00678/impl.PutNum hows []
def lp140_0 : AC := .seq (.seq (.reg [⟨some 13, .mv (.t 3), none⟩,
        ⟨some 14, .bin .gtr (.t 13) (.c (.int .u64 127)), none⟩])
      (.cond (.t 14)
        (.skip)
        (.exit 0)))
      (.seq (.block 1 (.reg [⟨some 17, .mv (.t 4), none⟩,
          ⟨some 18, .mv (.t 3), none⟩,
          ⟨some 19, .conv .u8 (.t 18), none⟩,
          ⟨some 20, .bin .or (.t 19) (.c (.int .u8 128)), none⟩,
          ⟨some 21, .slit .u8 [(.t 20)], none⟩,
          ⟨some 22, .app .u8 (.t 17) (.t 21), none⟩,
          ⟨some 4, .mv (.t 22), none⟩]))
      (.reg [⟨some 15, .mv (.t 3), none⟩,
        ⟨some 16, .bin .shr (.t 15) (.c (.int .u64 7)), none⟩,
        ⟨some 3, .mv (.t 16), none⟩]))
def af140 : AF := ⟨29, [.t 2],
  .seq (.reg [⟨some 2, .mv (.c (.str ⟨#[]⟩)), none⟩])
  (.seq (.reg [⟨some 5, .mv (.t 0), none⟩,
    ⟨some 6, .conv .u64 (.t 5), none⟩,
    ⟨some 7, .bin .shl (.t 6) (.c (.int .u64 1)), none⟩,
    ⟨some 3, .mv (.t 7), none⟩])
  (.seq (.seq (.reg [⟨some 8, .mv (.t 0), none⟩,
    ⟨some 9, .bin .lss (.t 8) (.i 0), none⟩])
  (.cond (.t 9)
    (.reg [⟨some 10, .mv (.t 3), none⟩,
      ⟨some 11, .un .xor (.t 10), none⟩,
      ⟨some 3, .mv (.t 11), none⟩])
    (.skip)))
  (.seq (.reg [⟨some 12, .slit .u8 [], none⟩,
    ⟨some 4, .mv (.t 12), none⟩])
  (.seq (.block 0 (.loop lp140_0))
  (.seq (.reg [⟨some 23, .mv (.t 4), none⟩,
    ⟨some 24, .mv (.t 3), none⟩,
    ⟨some 25, .conv .u8 (.t 24), none⟩,
    ⟨some 26, .slit .u8 [(.t 25)], none⟩,
    ⟨some 27, .app .u8 (.t 23) (.t 26), none⟩,
    ⟨some 28, .b2s (.t 27), none⟩,
    ⟨some 2, .mv (.t 28), none⟩])
  (.ret))))))⟩

set_option maxHeartbeats 4000000 in
theorem does140 (as : List AV) (hok : ok 64 as) : Does tbNone af140 conPut as := by
  cases h : (conPut).run as with
  | none => exact does_none h
  | some out =>
    have h' := h
    simp only [conPut] at h'
    split at h'
    · rename_i n
      by_cases hp : -9223372036854775808 ≤ n ∧ n ≤ 9223372036854775807
      case neg => simp [guardP, hp] at h'
      rw [guardP_pos hp] at h'
      obtain ⟨hp1, hp2⟩ := hp
      have hfb := foldN_bd hp1 hp2
      simp only [Option.some.injEq] at h'
      subst h'
      have hmo : (most : Int) = 1099511627776 := rfl
      have hml : (maxLen : Int) = 9223372036854775807 := rfl
      with_reducible refine does_by h fun Q hQ => ?_
      clear h
      dsimp only [af140, conPut, go_sem, Nat.reduceAdd, Nat.reduceMul, Nat.reduceSub, Nat.reduceBEq, Nat.reduceLeDiff, Nat.reduceEqDiff, ↓dreduceIte, toG]
      repeat' first
        | with_reducible refine kon_seq ?_
        | with_reducible refine kon_nil ?_
        | with_reducible refine kon_any ?_ ?_
        | with_reducible exact kon_any_nil
        | with_reducible refine kon_skip ?_
        | with_reducible refine kon_block ?_
        | with_reducible refine kon_ret ?_
        | with_reducible refine kon_exit ?_
        | with_reducible refine kon_past_ret ?_
        | with_reducible refine kon_past_exit ?_
        | with_reducible refine kon_blk_ret ?_
        | with_reducible refine kon_blk_end ?_
        | with_reducible refine kon_blk_exit ?_
        | (with_reducible refine kon_blk_past ?_ ?_
           · decide)
        | with_reducible refine loop_exit ?_
        | with_reducible refine loop_ret ?_
        | with_reducible refine mid_exit ?_
        | with_reducible refine mid_ret ?_
        | (with_reducible refine kon_bin fun R hR => ?_
           dsimp only [go_sem, Nat.reduceAdd, Nat.reduceMul, Nat.reduceSub, Nat.reduceBEq, Nat.reduceLeDiff, Nat.reduceEqDiff, ↓dreduceIte, toG]
           try simp (disch := first | omega | (simp only [List.length_set, List.length_append, List.length_cons, List.length_nil, List.length_replicate]; omega)) only [guardP_T, guardP_pos, iteN, rd_set, List.set_set, List.length_set, eta_fact, eta_rumor, eta_doubt, eta_item, eta_rec, eta_due, look, look0, rd_toNat, wrap64, Int.toNat_natCast, Nat.zero_add, List.take_length, List.drop_zero, and_self, setB_len, true_and, and_true, shl1, not64, shr7, or128, wrapU8]
           with_reducible refine hR _ ?_
           clear hR R)
        | (with_reducible refine kon_conv fun R hR => ?_
           dsimp only [go_sem, Nat.reduceAdd, Nat.reduceMul, Nat.reduceSub, Nat.reduceBEq, Nat.reduceLeDiff, Nat.reduceEqDiff, ↓dreduceIte, toG]
           try simp (disch := first | omega | (simp only [List.length_set, List.length_append, List.length_cons, List.length_nil, List.length_replicate]; omega)) only [guardP_T, guardP_pos, iteN, rd_set, List.set_set, List.length_set, eta_fact, eta_rumor, eta_doubt, eta_item, eta_rec, eta_due, look, look0, rd_toNat, wrap64, Int.toNat_natCast, Nat.zero_add, List.take_length, List.drop_zero, and_self, setB_len, true_and, and_true, shl1, not64, shr7, or128, wrapU8]
           with_reducible refine hR _ ?_
           clear hR R)
        | (with_reducible refine kon_ins fun R hR => ?_
           dsimp only [go_sem, Nat.reduceAdd, Nat.reduceMul, Nat.reduceSub, Nat.reduceBEq, Nat.reduceLeDiff, Nat.reduceEqDiff, ↓dreduceIte, toG]
           first
             | with_reducible refine hR _ ?_
             | (simp (disch := first | omega | (simp only [List.length_set, List.length_append, List.length_cons, List.length_nil, List.length_replicate]; omega)) only [guardP_T, guardP_pos, iteN, rd_set, List.set_set, List.length_set, eta_fact, eta_rumor, eta_doubt, eta_item, eta_rec, eta_due, look, look0, rd_toNat, wrap64, Int.toNat_natCast, Nat.zero_add, List.take_length, List.drop_zero, and_self, setB_len, true_and, and_true, shl1, not64, shr7, or128, wrapU8]
                try dsimp only [go_sem, Nat.reduceAdd, Nat.reduceMul, Nat.reduceSub, Nat.reduceBEq, Nat.reduceLeDiff, Nat.reduceEqDiff, ↓dreduceIte, toG]
                try simp (disch := first | omega | (simp only [List.length_set, List.length_append, List.length_cons, List.length_nil, List.length_replicate]; omega)) only [guardP_T, guardP_pos, iteN, rd_set, List.set_set, List.length_set, eta_fact, eta_rumor, eta_doubt, eta_item, eta_rec, eta_due, look, look0, rd_toNat, wrap64, Int.toNat_natCast, Nat.zero_add, List.take_length, List.drop_zero, and_self, setB_len, true_and, and_true, shl1, not64, shr7, or128, wrapU8]
                with_reducible refine hR _ ?_)
           clear hR R)
        | (with_reducible refine kon_g_run ?_ ?_
           · dsimp only [nth] <;> with_reducible rfl)
        | (with_reducible refine kon_g_skip ?_ ?_
           · dsimp only [nth, not_t', not_f'] <;> with_reducible rfl
           dsimp only [go_sem])
        | (with_reducible refine kon_g_undef ?_ ?_
           · dsimp only [nth] <;> with_reducible rfl
           dsimp only [go_sem])
        | (with_reducible refine kon_g fun R hR => ?_
           dsimp only [go_sem, Nat.reduceAdd, Nat.reduceMul, Nat.reduceSub, Nat.reduceBEq, Nat.reduceLeDiff, Nat.reduceEqDiff, ↓dreduceIte, toG]
           split <;> (rename_i hb; with_reducible refine hR _ ?_; clear hR R; try simp only [hb]; try simp only [decide_eq_true_eq, decide_eq_false_iff_not, beq_iff_eq, beq_eq_false_iff_ne, bne_iff_ne, bne_eq_false_iff_eq, Bool.not_eq_true, Bool.not_eq_false, Bool.not_eq_eq_eq_not, Bool.not_true, Bool.not_false, ne_eq, Int.not_lt, Int.not_le, eq_self, not_true_eq_false, not_false_eq_true, decide_true, decide_false, Bool.and_eq_true, Bool.or_eq_true, Bool.and_eq_false_iff, Bool.or_eq_false_iff, gt_iff_lt, ge_iff_le, Bool.false_eq_true, Bool.true_eq_false, reduceCtorEq, or_false, false_or, or_true, true_or, false_and, and_false, shl1, not64, shr7, or128, wrapU8] at hb; try (exfalso; omega)))
        | (with_reducible refine kon_cond fun R1 R2 h1 h2 => ?_
           dsimp only [go_sem]
           first
             | (with_reducible refine h1 ?_; clear h1 h2 R1 R2)
             | (with_reducible refine h2 ?_; clear h1 h2 R1 R2)
             | (split <;> rename_i hb <;> first
                 | (with_reducible refine h1 ?_; clear h1 h2 R1 R2; try simp only [hb]; try simp only [decide_eq_true_eq, decide_eq_false_iff_not, beq_iff_eq, beq_eq_false_iff_ne, bne_iff_ne, bne_eq_false_iff_eq, Bool.not_eq_true, Bool.not_eq_false, Bool.not_eq_eq_eq_not, Bool.not_true, Bool.not_false, ne_eq, Int.not_lt, Int.not_le, eq_self, not_true_eq_false, not_false_eq_true, decide_true, decide_false, Bool.and_eq_true, Bool.or_eq_true, Bool.and_eq_false_iff, Bool.or_eq_false_iff, gt_iff_lt, ge_iff_le, Bool.false_eq_true, Bool.true_eq_false, reduceCtorEq, or_false, false_or, or_true, true_or, false_and, and_false, shl1, not64, shr7, or128, wrapU8] at hb; try (exfalso; omega))
                 | (with_reducible refine h2 ?_; clear h1 h2 R1 R2; try simp only [hb]; try simp only [decide_eq_true_eq, decide_eq_false_iff_not, beq_iff_eq, beq_eq_false_iff_ne, bne_iff_ne, bne_eq_false_iff_eq, Bool.not_eq_true, Bool.not_eq_false, Bool.not_eq_eq_eq_not, Bool.not_true, Bool.not_false, ne_eq, Int.not_lt, Int.not_le, eq_self, not_true_eq_false, not_false_eq_true, decide_true, decide_false, Bool.and_eq_true, Bool.or_eq_true, Bool.and_eq_false_iff, Bool.or_eq_false_iff, gt_iff_lt, ge_iff_le, Bool.false_eq_true, Bool.true_eq_false, reduceCtorEq, or_false, false_or, or_true, true_or, false_and, and_false, shl1, not64, shr7, or128, wrapU8] at hb; try (exfalso; omega))))
        | (with_reducible refine kon_rounds (a := lp140_0) [3, 4] (fun n9 s9 => ∃ (u : Int) (o : List UInt8), ((0 ≤ u) ∧ (o.length ≤ 9) ∧ (u < 128 ^ (10 - o.length)) ∧ (o ++ putL (10 - o.length) u = putB n) ∧ (u < 18446744073709551616)) ∧ n9 = u.toNat ∧ s9.m = [.row 0 .u8 o] ∧ s9.t = [nth s9.t 0, nth s9.t 1, nth s9.t 2, .int .u64 u, .ms 0 0 0 o.length, nth s9.t 5, nth s9.t 6, nth s9.t 7, nth s9.t 8, nth s9.t 9, nth s9.t 10, nth s9.t 11, nth s9.t 12, nth s9.t 13, nth s9.t 14, nth s9.t 15, nth s9.t 16, nth s9.t 17, nth s9.t 18, nth s9.t 19, nth s9.t 20, nth s9.t 21, nth s9.t 22, nth s9.t 23, nth s9.t 24, nth s9.t 25, nth s9.t 26, nth s9.t 27, nth s9.t 28]) ?_ ?_
           all_goals first
             | (rintro n9 ⟨t9, m9⟩ ⟨u, o, ⟨hI0, hI1, hI2, hI3, hI4⟩, rfl, hm9, ht9⟩
                dsimp only at hm9 ht9
                subst hm9
                rw [ht9]
                clear ht9
                dsimp only [lp140_0])
             | (dsimp only [go_sem, Nat.reduceAdd, Nat.reduceMul, Nat.reduceSub, Nat.reduceBEq, Nat.reduceLeDiff, Nat.reduceEqDiff, ↓dreduceIte, toG]
                refine ⟨_, _, _, ⟨?_, ?_, ?_, ?_, ?_⟩, rfl, rfl, rfl⟩))
        | (with_reducible refine loop_again (keep := [3, 4]) ?_
           dsimp only [go_sem, Nat.reduceAdd, Nat.reduceMul, Nat.reduceSub, Nat.reduceBEq, Nat.reduceLeDiff, Nat.reduceEqDiff, ↓dreduceIte, toG]
           refine ⟨_, ?_, _, _, ⟨?_, ?_, ?_, ?_, ?_⟩, rfl, rfl, rfl⟩)
      all_goals first
        | (dsimp only [kon]
           with_reducible refine hQ _ _ _ ?_
           dsimp only [kon, endQ, af140, conPut, go_sem, Nat.reduceAdd, Nat.reduceMul, Nat.reduceSub, Nat.reduceBEq, Nat.reduceLeDiff, Nat.reduceEqDiff, ↓dreduceIte, toG]
           try simp (disch := first | omega | (simp only [List.length_set, List.length_append, List.length_cons, List.length_nil, List.length_replicate]; omega)) only [guardP_T, guardP_pos, iteN, rd_set, List.set_set, List.length_set, eta_fact, eta_rumor, eta_doubt, eta_item, eta_rec, eta_due, look, look0, rd_toNat, wrap64, Int.toNat_natCast, Nat.zero_add, List.take_length, List.drop_zero, and_self, setB_len, true_and, and_true]
           try dsimp only [go_sem, Nat.reduceAdd, Nat.reduceMul, Nat.reduceSub, Nat.reduceBEq, Nat.reduceLeDiff, Nat.reduceEqDiff, ↓dreduceIte, toG])
        | skip
      all_goals try first
        | omega
        | (simp; done)
        | (simp; omega)
      all_goals try simp (disch := omega) only [not64]
      all_goals first
        | omega
        | exact pow_bd (by omega)
        | (exact (pow_step' (u := u) (by omega) hI1 hI2).1)
        | (exact (pow_step' (u := u) (by omega) hI1 hI2).2)
        | (rw [← hI3]; refine putL_more ?_ (by omega) (by omega) hI2; unfold b8; congr 2; omega)
        | (rw [← hI3, putL_last (u := u) (o := o) (by omega) (by omega)]; unfold b8; rw [show u % 256 = u by omega])
        | (simp [putB]; done)
        | (simp only [putB, List.nil_append, List.length_nil, Nat.sub_zero]; congr 1; unfold foldN; split <;> omega)
    · simp at h'

end Go.Proofs.Ytnghlmogcbmlfaa
