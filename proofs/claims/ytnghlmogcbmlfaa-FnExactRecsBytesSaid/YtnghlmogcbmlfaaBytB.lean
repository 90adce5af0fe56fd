/- Registers. -/
import Derived.Test.YtnghlmogcbmlfaaBytA
namespace Go.Proofs.Ytnghlmogcbmlfaa
set_option linter.unusedVariables false
set_option linter.unusedSimpArgs false
set_option linter.unnecessarySimpa false

/-- A text of bytes. -/
def S (l : List UInt8) : ByteArray := ⟨l.toArray⟩

theorem bytes_S (l : List UInt8) : bytesOf (S l) = l := by simp [bytesOf, S]
theorem size_S (l : List UInt8) : (S l).size = l.length := by simp [S, ByteArray.size]
theorem S_bytes (t : ByteArray) : S (bytesOf t) = t := by
  cases t
  simp [S, bytesOf]
theorem bytes_len (t : ByteArray) : (bytesOf t).length = t.size := by simp only [bytesOf, ByteArray.size, Array.length_toList]
theorem S_app (a b : List UInt8) : S a ++ S b = S (a ++ b) := by
  apply ByteArray.ext
  simp [S]
theorem app_S (t : ByteArray) (l : List UInt8) : t ++ S l = S (bytesOf t ++ l) := by
  rw [← S_app, S_bytes]
theorem S_def (l : List UInt8) : (⟨l.toArray⟩ : ByteArray) = S l := rfl

/-- Two registers of 32 bits, put together. -/
def xr (a b : Int) : Int := ((BitVec.ofInt 32 a ^^^ BitVec.ofInt 32 b).toNat : Int)

theorem xr_bd (a b : Int) : 0 ≤ xr a b ∧ xr a b < 4294967296 := by
  unfold xr
  have := (BitVec.ofInt 32 a ^^^ BitVec.ofInt 32 b).isLt
  omega

theorem xr_comm (a b : Int) : xr a b = xr b a := by
  unfold xr
  rw [BitVec.xor_comm]

theorem wrapU32 {x : Int} (h0 : 0 ≤ x) (h1 : x < 4294967296) : IntKind.u32.wrap x = x := by
  simp only [IntKind.wrap, IntKind.signed, IntKind.bits]
  simp
  omega

theorem xrF (a b : Int) : IntKind.u32.wrap ((@BitVec.toNat 32 (@HXor.hXor (BitVec 32) (BitVec 32) (BitVec 32) (@instHXorOfXorOp (BitVec IntKind.u32.bits) (@BitVec.instXorOp IntKind.u32.bits)) (BitVec.ofInt 32 a) (BitVec.ofInt 32 b)) : Nat) : Int) = xr a b := wrapU32 (xr_bd a b).1 (xr_bd a b).2

theorem not32 (x : Int) : IntKind.u32.wrap ((@BitVec.toNat 32 (@HXor.hXor (BitVec 32) (BitVec 32) (BitVec 32) (@instHXorOfXorOp (BitVec IntKind.u32.bits) (@BitVec.instXorOp IntKind.u32.bits)) (BitVec.ofInt 32 (if IntKind.u32.signed = true then -1 else IntKind.u32.max)) (BitVec.ofInt 32 x)) : Nat) : Int) = xr x 4294967295 := by
  rw [xr_comm]
  exact xrF 4294967295 x

theorem and1' {x : Int} (h0 : 0 ≤ x) (h1 : x < 4294967296) : IntKind.u32.wrap ((BitVec.ofInt 32 x &&& BitVec.ofInt 32 1).toNat : Int) = x % 2 := by
  have e : (BitVec.ofInt 32 1).toNat = 1 := by decide
  rw [BitVec.toNat_and, e, Nat.and_one_is_mod, BitVec.toNat_ofInt, wrapU32 (by omega) (by omega)]
  omega

theorem and1 {x : Int} (h0 : 0 ≤ x) (h1 : x < 4294967296) : IntKind.u32.wrap ((@BitVec.toNat 32 (@HAnd.hAnd (BitVec 32) (BitVec 32) (BitVec 32) (@instHAndOfAndOp (BitVec IntKind.u32.bits) (@BitVec.instAndOp IntKind.u32.bits)) (BitVec.ofInt 32 x) (BitVec.ofInt 32 1)) : Nat) : Int) = x % 2 := and1' h0 h1

theorem shr1 (x : Int) : x.fdiv (2 ^ min (Int.toNat 1) 32) = x / 2 := by
  rw [show (2 : Int) ^ min (Int.toNat 1) 32 = 2 by decide]
  exact Int.fdiv_eq_ediv_of_nonneg _ (by decide)

theorem shr8 (x : Int) : x.fdiv (2 ^ min (Int.toNat 8) 64) = x / 256 := by
  rw [show (2 : Int) ^ min (Int.toNat 8) 64 = 256 by decide]
  exact Int.fdiv_eq_ediv_of_nonneg _ (by decide)

theorem shr16 (x : Int) : x.fdiv (2 ^ min (Int.toNat 16) 64) = x / 65536 := by
  rw [show (2 : Int) ^ min (Int.toNat 16) 64 = 65536 by decide]
  exact Int.fdiv_eq_ediv_of_nonneg _ (by decide)

theorem shr24 (x : Int) : x.fdiv (2 ^ min (Int.toNat 24) 64) = x / 16777216 := by
  rw [show (2 : Int) ^ min (Int.toNat 24) 64 = 16777216 by decide]
  exact Int.fdiv_eq_ediv_of_nonneg _ (by decide)

/-- One bit of the reckoning, so many bits, a byte, a text. -/
def crcBit (r : Int) : Int := if r % 2 = 1 then xr (r / 2) 3988292384 else r / 2

def crcB : Nat → Int → Int
  | 0, r => r
  | n + 1, r => crcB n (crcBit r)

def crcL : List UInt8 → Int → Int
  | [], r => r
  | c :: t, r => crcL t (crcB 8 (xr r c.toNat))

theorem crcBit_bd {r : Int} (h0 : 0 ≤ r) (h1 : r < 4294967296) : 0 ≤ crcBit r ∧ crcBit r < 4294967296 := by
  unfold crcBit
  split
  · exact xr_bd _ _
  · omega

theorem crcB_bd (n : Nat) {r : Int} (h0 : 0 ≤ r) (h1 : r < 4294967296) : 0 ≤ crcB n r ∧ crcB n r < 4294967296 := by
  induction n generalizing r with
  | zero => exact ⟨h0, h1⟩
  | succ n ih => exact ih (crcBit_bd h0 h1).1 (crcBit_bd h0 h1).2

theorem crcL_bd (l : List UInt8) {r : Int} (h0 : 0 ≤ r) (h1 : r < 4294967296) : 0 ≤ crcL l r ∧ crcL l r < 4294967296 := by
  induction l generalizing r with
  | nil => exact ⟨h0, h1⟩
  | cons c t ih =>
    have := xr_bd r c.toNat
    have := crcB_bd 8 this.1 this.2
    exact ih this.1 this.2

def crcOf (l : List UInt8) : Int := xr (crcL l 4294967295) 4294967295

theorem crcOf_bd (l : List UInt8) : 0 ≤ crcOf l ∧ crcOf l < 4294967296 := xr_bd _ _

theorem crc_step {l : List UInt8} {i r : Int} (h0 : 0 ≤ i) (h1 : i < l.length) : crcL (l.drop i.toNat) r = crcL (l.drop (i + 1).toNat) (crcB (8 - (0 : Int)).toNat (xr r (rd l i).toNat)) := by
  rw [drop_rd h0 h1]
  rfl

theorem crcB_step {k : Int} (r : Int) (h : k < 8) : crcB (8 - k).toNat r = crcB (8 - (k + 1)).toNat (crcBit r) := by
  rw [show (8 - k).toNat = (8 - (k + 1)).toNat + 1 by omega, crcB]

theorem crcB_zero {k : Int} (r : Int) (h : 8 ≤ k) : crcB (8 - k).toNat r = r := by
  rw [show (8 - k).toNat = 0 by omega, crcB]

/-- The first bytes of a number. -/
def fourL : Nat → Int → List UInt8
  | 0, _ => []
  | n + 1, c => b8 (c % 256) :: fourL n (c / 256)

theorem fourL_len (n : Nat) (c : Int) : (fourL n c).length = n := by
  induction n generalizing c with
  | zero => rfl
  | succ n ih => simp [fourL, ih]

theorem fourL_step {k : Int} (c : Int) (h : k < 4) : fourL (4 - k).toNat c = b8 (c % 256) :: fourL (4 - (k + 1)).toNat (c / 256) := by
  rw [show (4 - k).toNat = (4 - (k + 1)).toNat + 1 by omega, fourL]

theorem fourL_zero {k : Int} (c : Int) (h : 4 ≤ k) : fourL (4 - k).toNat c = [] := by
  rw [show (4 - k).toNat = 0 by omega, fourL]

def sealL (l : List UInt8) : List UInt8 := l ++ fourL 4 (crcOf l)

theorem sealL_len (l : List UInt8) : (sealL l).length = l.length + 4 := by simp [sealL, fourL_len]

theorem putL_len (n : Nat) (u : Int) : (putL n u).length ≤ n := by
  induction n generalizing u with
  | zero => simp [putL]
  | succ n ih =>
    simp only [putL]
    split
    · simp [ih]
    · simp

theorem putB_len (n : Int) : (putB n).length ≤ 10 := putL_len 10 _

def textL (l : List UInt8) : List UInt8 := putB l.length ++ l

theorem textL_len (l : List UInt8) : (textL l).length ≤ l.length + 10 := by
  simp only [textL, List.length_append]
  have := putB_len l.length
  omega

theorem bytes_look {t : ByteArray} {i : Int} (h0 : 0 ≤ i) (h1 : i < t.size) : (bytesOf t)[i.toNat]? = some (rd (bytesOf t) i) := look h0 (by rw [bytes_len]; exact h1)

theorem wrapB32 (c : UInt8) : IntKind.u32.wrap ((c.toNat : Nat) : Int) = c.toNat := by
  have := c.toNat_lt
  exact wrapU32 (by omega) (by omega)

theorem xr64 (a b : Int) : IntKind.i64.wrap (xr a b) = xr a b := by
  have := xr_bd a b
  exact wrap64 (by omega) (by omega)

theorem xr0 : xr 0 4294967295 = 4294967295 := by rfl

theorem wrap0 : IntKind.u32.wrap 0 = 0 := wrapU32 (by decide) (by decide)

theorem S_nil : (⟨#[]⟩ : ByteArray) = S [] := rfl

theorem S_t (a : List UInt8) (t : ByteArray) : S a ++ t = S (a ++ bytesOf t) := by
  rw [← S_app, S_bytes]

theorem bsz (t : ByteArray) : t.size = (bytesOf t).length := (bytes_len t).symm

theorem S_inj {a b : List UInt8} : S a = S b ↔ a = b := by
  constructor
  · intro h
    have := congrArg bytesOf h
    rwa [bytes_S, bytes_S] at this
  · intro h
    rw [h]

theorem fourS (n : Int) : S (fourL 4 n) = ⟨[b8 (n % 256), b8 (n / 256 % 256), b8 (n / 65536 % 256), b8 (n / 16777216 % 256)].toArray⟩ := by
  simp only [fourL, S]
  rw [show n / 256 / 256 = n / 65536 by omega, show n / 65536 / 256 = n / 16777216 by omega]

def conLong : Con := ⟨[.v], .v, fun as => match as with
  | [.str t] => some (.bool (decide (8000 < t.size)), [])
  | _ => none⟩

def conCrcMore : Con := ⟨[.v, .v], .v, fun as => match as with
  | [.int .u32 r0, .str t] => guardP (0 ≤ r0 ∧ r0 < 4294967296 ∧ t.size ≤ 8000) (some (.int .u32 (crcL (bytesOf t) r0), []))
  | _ => none⟩

def conCrc : Con := ⟨[.v], .v, fun as => match as with
  | [.str t] => guardP (t.size ≤ 8000 ∧ True) (some (.int .i64 (crcOf (bytesOf t)), []))
  | _ => none⟩

def conCrcS : Con := ⟨[.v, .v], .v, fun as => match as with
  | [.int .i64 c, .str t] => guardP (c = 0 ∧ t.size ≤ 8000) (some (.int .i64 (crcOf (bytesOf t)), []))
  | _ => none⟩

def conFour : Con := ⟨[.v], .v, fun as => match as with
  | [.int .i64 n] => some (.str (S (fourL 4 n)), [])
  | _ => none⟩

def conSeal : Con := ⟨[.v], .v, fun as => match as with
  | [.str t] => guardP (t.size ≤ 7996 ∧ True) (some (.str (S (sealL (bytesOf t))), []))
  | _ => none⟩

def conPutText : Con := ⟨[.v], .v, fun as => match as with
  | [.str t] => guardP (t.size ≤ 8000 ∧ True) (some (.str (S (textL (bytesOf t))), []))
  | _ => none⟩

/-- Whole numbers that lie in an int64. -/
def numsP : List Int → Prop
  | [] => True
  | x :: r => (-9223372036854775808 ≤ x ∧ x ≤ 9223372036854775807) ∧ numsP r

instance numsP_dec : (l : List Int) → Decidable (numsP l)
  | [] => isTrue trivial
  | x :: r => @instDecidableAnd _ _ inferInstance (numsP_dec r)

theorem numsP_nil : numsP [] = True := rfl
theorem numsP_cons (x : Int) (r : List Int) : numsP (x :: r) = ((-9223372036854775808 ≤ x ∧ x ≤ 9223372036854775807) ∧ numsP r) := rfl

theorem numsP_mem {l : List Int} (h : numsP l) : ∀ x ∈ l, -9223372036854775808 ≤ x ∧ x ≤ 9223372036854775807 := by
  induction l with
  | nil => intro x hx; simp at hx
  | cons a l ih =>
    intro x hx
    rcases List.mem_cons.1 hx with rfl | hx
    · exact h.1
    · exact ih h.2 x hx

theorem numsP_rd {l : List Int} (h : numsP l) {i : Int} (h0 : 0 ≤ i) : i < l.length → -9223372036854775808 ≤ rd l i ∧ rd l i ≤ 9223372036854775807 := fun h1 => numsP_mem h _ (rd_mem h0 h1)

def numsL (l : List Int) : List UInt8 := l.flatMap putB

theorem numsL_step {l : List Int} {i : Int} (h0 : 0 ≤ i) (h1 : i < l.length) : numsL (l.take (i + 1).toNat) = numsL (l.take i.toNat) ++ putB (rd l i) := by
  unfold numsL
  rw [take_rd h0 h1]
  simp

theorem numsL_len (l : List Int) : (numsL l).length ≤ 10 * l.length := by
  induction l with
  | nil => simp [numsL]
  | cons a l ih =>
    have := putB_len a
    simp only [numsL, List.flatMap_cons, List.length_append, List.length_cons] at ih ⊢
    omega

def conNums : Con := ⟨[.imm .int], .v, fun as => match as with
  | [.sl .int l] => guardP (l.length ≤ 100 ∧ numsP l) (some (.str (S (numsL l)), []))
  | _ => none⟩

-- loop.example/g00678/impl.longText hows []
def af68 : AF := ⟨6, [.t 2],
  .seq (.reg [⟨some 2, .mv (.b false), none⟩])
  (.seq (.reg [⟨some 3, .mv (.t 0), none⟩,
    ⟨some 4, .lens (.t 3), none⟩,
    ⟨some 5, .bin .gtr (.t 4) (.i 8000), none⟩,
    ⟨some 2, .mv (.t 5), none⟩])
  (.ret))⟩

set_option maxHeartbeats 4000000 in
theorem does68 (as : List AV) (hok : ok 64 as) : Does tbNone af68 conLong as := by
  cases h : (conLong).run as with
  | none => exact does_none h
  | some out =>
    have h' := h
    simp only [conLong] at h'
    split at h'
    · rename_i t
      simp only [Option.some.injEq] at h'
      subst h'
      have hmo : (most : Int) = 1099511627776 := rfl
      have hml : (maxLen : Int) = 9223372036854775807 := rfl
      with_reducible refine does_by h fun Q hQ => ?_
      clear h
      dsimp only [af68, conLong, go_sem, Nat.reduceAdd, Nat.reduceMul, Nat.reduceSub, Nat.reduceBEq, Nat.reduceLeDiff, Nat.reduceEqDiff, ↓dreduceIte, toG]
      repeat' first
        | with_reducible refine kon_seq ?_
        | with_reducible refine kon_nil ?_
        | with_reducible refine kon_any ?_ ?_
        | with_reducible exact kon_any_nil
        | with_reducible refine kon_skip ?_
        | with_reducible refine kon_block ?_
        | with_reducible refine kon_ret ?_
        | with_reducible refine kon_exit ?_
        | with_reducible refine kon_past_ret ?_
        | with_reducible refine kon_past_exit ?_
        | with_reducible refine kon_blk_ret ?_
        | with_reducible refine kon_blk_end ?_
        | with_reducible refine kon_blk_exit ?_
        | (with_reducible refine kon_blk_past ?_ ?_
           · decide)
        | with_reducible refine loop_exit ?_
        | with_reducible refine loop_ret ?_
        | with_reducible refine mid_exit ?_
        | with_reducible refine mid_ret ?_
        | (with_reducible refine kon_bin fun R hR => ?_
           dsimp only [go_sem, Nat.reduceAdd, Nat.reduceMul, Nat.reduceSub, Nat.reduceBEq, Nat.reduceLeDiff, Nat.reduceEqDiff, ↓dreduceIte, toG]
           try simp (disch := first | omega | (simp only [List.length_set, List.length_append, List.length_cons, List.length_nil, List.length_replicate]; omega)) only [guardP_T, guardP_pos, iteN, rd_set, List.set_set, List.length_set, eta_fact, eta_rumor, eta_doubt, eta_item, eta_rec, eta_due, look, look0, rd_toNat, wrap64, Int.toNat_natCast, Nat.zero_add, List.take_length, List.drop_zero, and_self, setB_len, true_and, and_true]
           with_reducible refine hR _ ?_
           clear hR R)
        | (with_reducible refine kon_conv fun R hR => ?_
           dsimp only [go_sem, Nat.reduceAdd, Nat.reduceMul, Nat.reduceSub, Nat.reduceBEq, Nat.reduceLeDiff, Nat.reduceEqDiff, ↓dreduceIte, toG]
           try simp (disch := first | omega | (simp only [List.length_set, List.length_append, List.length_cons, List.length_nil, List.length_replicate]; omega)) only [guardP_T, guardP_pos, iteN, rd_set, List.set_set, List.length_set, eta_fact, eta_rumor, eta_doubt, eta_item, eta_rec, eta_due, look, look0, rd_toNat, wrap64, Int.toNat_natCast, Nat.zero_add, List.take_length, List.drop_zero, and_self, setB_len, true_and, and_true]
           with_reducible refine hR _ ?_
           clear hR R)
        | (with_reducible refine kon_ins fun R hR => ?_
           dsimp only [go_sem, Nat.reduceAdd, Nat.reduceMul, Nat.reduceSub, Nat.reduceBEq, Nat.reduceLeDiff, Nat.reduceEqDiff, ↓dreduceIte, toG]
           first
             | with_reducible refine hR _ ?_
             | (simp (disch := first | omega | (simp only [List.length_set, List.length_append, List.length_cons, List.length_nil, List.length_replicate]; omega)) only [guardP_T, guardP_pos, iteN, rd_set, List.set_set, List.length_set, eta_fact, eta_rumor, eta_doubt, eta_item, eta_rec, eta_due, look, look0, rd_toNat, wrap64, Int.toNat_natCast, Nat.zero_add, List.take_length, List.drop_zero, and_self, setB_len, true_and, and_true]
                try dsimp only [go_sem, Nat.reduceAdd, Nat.reduceMul, Nat.reduceSub, Nat.reduceBEq, Nat.reduceLeDiff, Nat.reduceEqDiff, ↓dreduceIte, toG]
                try simp (disch := first | omega | (simp only [List.length_set, List.length_append, List.length_cons, List.length_nil, List.length_replicate]; omega)) only [guardP_T, guardP_pos, iteN, rd_set, List.set_set, List.length_set, eta_fact, eta_rumor, eta_doubt, eta_item, eta_rec, eta_due, look, look0, rd_toNat, wrap64, Int.toNat_natCast, Nat.zero_add, List.take_length, List.drop_zero, and_self, setB_len, true_and, and_true]
                with_reducible refine hR _ ?_)
           clear hR R)
        | (with_reducible refine kon_g_run ?_ ?_
           · dsimp only [nth] <;> with_reducible rfl)
        | (with_reducible refine kon_g_skip ?_ ?_
           · dsimp only [nth, not_t', not_f'] <;> with_reducible rfl
           dsimp only [go_sem])
        | (with_reducible refine kon_g_undef ?_ ?_
           · dsimp only [nth] <;> with_reducible rfl
           dsimp only [go_sem])
        | (with_reducible refine kon_g fun R hR => ?_
           dsimp only [go_sem, Nat.reduceAdd, Nat.reduceMul, Nat.reduceSub, Nat.reduceBEq, Nat.reduceLeDiff, Nat.reduceEqDiff, ↓dreduceIte, toG]
           split <;> (rename_i hb; with_reducible refine hR _ ?_; clear hR R; try simp only [hb]; try simp only [decide_eq_true_eq, decide_eq_false_iff_not, beq_iff_eq, beq_eq_false_iff_ne, bne_iff_ne, bne_eq_false_iff_eq, Bool.not_eq_true, Bool.not_eq_false, Bool.not_eq_eq_eq_not, Bool.not_true, Bool.not_false, ne_eq, Int.not_lt, Int.not_le, eq_self, not_true_eq_false, not_false_eq_true, decide_true, decide_false, Bool.and_eq_true, Bool.or_eq_true, Bool.and_eq_false_iff, Bool.or_eq_false_iff, gt_iff_lt, ge_iff_le, Bool.false_eq_true, Bool.true_eq_false, reduceCtorEq, or_false, false_or, or_true, true_or, false_and, and_false] at hb; try (exfalso; omega)))
        | (with_reducible refine kon_cond fun R1 R2 h1 h2 => ?_
           dsimp only [go_sem]
           first
             | (with_reducible refine h1 ?_; clear h1 h2 R1 R2)
             | (with_reducible refine h2 ?_; clear h1 h2 R1 R2)
             | (split <;> rename_i hb <;> first
                 | (with_reducible refine h1 ?_; clear h1 h2 R1 R2; try simp only [hb]; try simp only [decide_eq_true_eq, decide_eq_false_iff_not, beq_iff_eq, beq_eq_false_iff_ne, bne_iff_ne, bne_eq_false_iff_eq, Bool.not_eq_true, Bool.not_eq_false, Bool.not_eq_eq_eq_not, Bool.not_true, Bool.not_false, ne_eq, Int.not_lt, Int.not_le, eq_self, not_true_eq_false, not_false_eq_true, decide_true, decide_false, Bool.and_eq_true, Bool.or_eq_true, Bool.and_eq_false_iff, Bool.or_eq_false_iff, gt_iff_lt, ge_iff_le, Bool.false_eq_true, Bool.true_eq_false, reduceCtorEq, or_false, false_or, or_true, true_or, false_and, and_false] at hb; try (exfalso; omega))
                 | (with_reducible refine h2 ?_; clear h1 h2 R1 R2; try simp only [hb]; try simp only [decide_eq_true_eq, decide_eq_false_iff_not, beq_iff_eq, beq_eq_false_iff_ne, bne_iff_ne, bne_eq_false_iff_eq, Bool.not_eq_true, Bool.not_eq_false, Bool.not_eq_eq_eq_not, Bool.not_true, Bool.not_false, ne_eq, Int.not_lt, Int.not_le, eq_self, not_true_eq_false, not_false_eq_true, decide_true, decide_false, Bool.and_eq_true, Bool.or_eq_true, Bool.and_eq_false_iff, Bool.or_eq_false_iff, gt_iff_lt, ge_iff_le, Bool.false_eq_true, Bool.true_eq_false, reduceCtorEq, or_false, false_or, or_true, true_or, false_and, and_false] at hb; try (exfalso; omega))))
      all_goals first
        | (dsimp only [kon]
           with_reducible refine hQ _ _ _ ?_
           dsimp only [kon, endQ, af68, conLong, go_sem, Nat.reduceAdd, Nat.reduceMul, Nat.reduceSub, Nat.reduceBEq, Nat.reduceLeDiff, Nat.reduceEqDiff, ↓dreduceIte, toG]
           try simp (disch := first | omega | (simp only [List.length_set, List.length_append, List.length_cons, List.length_nil, List.length_replicate]; omega)) only [guardP_T, guardP_pos, iteN, rd_set, List.set_set, List.length_set, eta_fact, eta_rumor, eta_doubt, eta_item, eta_rec, eta_due, look, look0, rd_toNat, wrap64, Int.toNat_natCast, Nat.zero_add, List.take_length, List.drop_zero, and_self, setB_len, true_and, and_true]
           try dsimp only [go_sem, Nat.reduceAdd, Nat.reduceMul, Nat.reduceSub, Nat.reduceBEq, Nat.reduceLeDiff, Nat.reduceEqDiff, ↓dreduceIte, toG])
        | skip
      all_goals try first
        | omega
        | (simp; done)
        | (simp; omega)
      all_goals (simp_all)
    · simp at h'

-- loop.example/g00678/impl.crcMore hows []
def lp200_1 : AC := .seq (.reg [⟨some 19, .bin .lss (.t 18) (.i 8), none⟩])
            (.seq (.cond (.t 19)
              (.skip)
              (.exit 2))
            (.seq (.block 3 (.seq (.reg [⟨some 20, .mv (.t 0), none⟩,
                ⟨some 21, .bin .and (.t 20) (.c (.int .u32 1)), none⟩,
                ⟨some 6, .mv (.t 21), none⟩])
              (.seq (.reg [⟨some 22, .mv (.t 0), none⟩,
                ⟨some 23, .bin .shr (.t 22) (.c (.int .u64 1)), none⟩,
                ⟨some 0, .mv (.t 23), none⟩])
              (.seq (.reg [⟨some 24, .mv (.t 6), none⟩,
                ⟨some 25, .bin .eql (.t 24) (.c (.int .u32 1)), none⟩])
              (.cond (.t 25)
                (.reg [⟨some 26, .mv (.t 0), none⟩,
                  ⟨some 27, .bin .xor (.t 26) (.c (.int .u32 3988292384)), none⟩,
                  ⟨some 0, .mv (.t 27), none⟩])
                (.skip))))))
            (.reg [⟨some 28, .bin .add (.t 18) (.i 1), none⟩,
              ⟨some 18, .mv (.t 28), none⟩])))
def lp200_0 : AC := .seq (.reg [⟨some 10, .bin .lss (.t 9) (.t 8), none⟩])
      (.seq (.cond (.t 10)
        (.skip)
        (.exit 0))
      (.seq (.block 1 (.seq (.reg [⟨some 11, .mv (.t 9), none⟩,
          ⟨some 5, .mv (.t 11), none⟩])
        (.seq (.reg [⟨some 12, .mv (.t 0), none⟩,
          ⟨some 13, .mv (.t 1), none⟩,
          ⟨some 14, .mv (.t 5), none⟩,
          ⟨some 15, .ixs (.t 13) (.t 14), none⟩,
          ⟨some 16, .conv .u32 (.t 15), none⟩,
          ⟨some 17, .bin .xor (.t 12) (.t 16), none⟩,
          ⟨some 0, .mv (.t 17), none⟩])
        (.seq (.reg [⟨some 18, .mv (.i 0), none⟩])
        (.block 2 (.loop lp200_1))))))
      (.reg [⟨some 29, .bin .add (.t 9) (.i 1), none⟩,
        ⟨some 9, .mv (.t 29), none⟩])))
def af200 : AF := ⟨31, [.t 4],
  .seq (.reg [⟨some 4, .mv (.c (.int .u32 0)), none⟩])
  (.seq (.seq (.reg [⟨some 7, .mv (.t 1), none⟩,
    ⟨some 8, .lens (.t 7), none⟩,
    ⟨some 9, .mv (.i 0), none⟩])
  (.block 0 (.loop lp200_0)))
  (.seq (.reg [⟨some 30, .mv (.t 0), none⟩,
    ⟨some 4, .mv (.t 30), none⟩])
  (.ret)))⟩

set_option maxHeartbeats 4000000 in
theorem does200 (as : List AV) (hok : ok 64 as) : Does tbNone af200 conCrcMore as := by
  cases h : (conCrcMore).run as with
  | none => exact does_none h
  | some out =>
    have h' := h
    simp only [conCrcMore] at h'
    split at h'
    · rename_i r0 t
      by_cases hp : 0 ≤ r0 ∧ r0 < 4294967296 ∧ t.size ≤ 8000
      case neg => simp [guardP, hp] at h'
      rw [guardP_pos hp] at h'
      obtain ⟨hp1, hp2, hp3⟩ := hp
      simp only [Option.some.injEq] at h'
      subst h'
      have hmo : (most : Int) = 1099511627776 := rfl
      have hml : (maxLen : Int) = 9223372036854775807 := rfl
      with_reducible refine does_by h fun Q hQ => ?_
      clear h
      dsimp only [af200, conCrcMore, go_sem, Nat.reduceAdd, Nat.reduceMul, Nat.reduceSub, Nat.reduceBEq, Nat.reduceLeDiff, Nat.reduceEqDiff, ↓dreduceIte, toG]
      repeat' first
        | with_reducible refine kon_seq ?_
        | with_reducible refine kon_nil ?_
        | with_reducible refine kon_any ?_ ?_
        | with_reducible exact kon_any_nil
        | with_reducible refine kon_skip ?_
        | with_reducible refine kon_block ?_
        | with_reducible refine kon_ret ?_
        | with_reducible refine kon_exit ?_
        | with_reducible refine kon_past_ret ?_
        | with_reducible refine kon_past_exit ?_
        | with_reducible refine kon_blk_ret ?_
        | with_reducible refine kon_blk_end ?_
        | with_reducible refine kon_blk_exit ?_
        | (with_reducible refine kon_blk_past ?_ ?_
           · decide)
        | with_reducible refine loop_exit ?_
        | with_reducible refine loop_ret ?_
        | with_reducible refine mid_exit ?_
        | with_reducible refine mid_ret ?_
        | (with_reducible refine kon_bin fun R hR => ?_
           dsimp only [go_sem, Nat.reduceAdd, Nat.reduceMul, Nat.reduceSub, Nat.reduceBEq, Nat.reduceLeDiff, Nat.reduceEqDiff, ↓dreduceIte, toG]
           try simp (disch := first | omega | (simp only [List.length_set, List.length_append, List.length_cons, List.length_nil, List.length_replicate]; omega)) only [guardP_T, guardP_pos, iteN, rd_set, List.set_set, List.length_set, eta_fact, eta_rumor, eta_doubt, eta_item, eta_rec, eta_due, look, look0, rd_toNat, wrap64, Int.toNat_natCast, Nat.zero_add, List.take_length, List.drop_zero, and_self, setB_len, true_and, and_true, bytes_look, wrapB32, xrF, and1, shr1, not32, xr64]
           with_reducible refine hR _ ?_
           clear hR R)
        | (with_reducible refine kon_conv fun R hR => ?_
           dsimp only [go_sem, Nat.reduceAdd, Nat.reduceMul, Nat.reduceSub, Nat.reduceBEq, Nat.reduceLeDiff, Nat.reduceEqDiff, ↓dreduceIte, toG]
           try simp (disch := first | omega | (simp only [List.length_set, List.length_append, List.length_cons, List.length_nil, List.length_replicate]; omega)) only [guardP_T, guardP_pos, iteN, rd_set, List.set_set, List.length_set, eta_fact, eta_rumor, eta_doubt, eta_item, eta_rec, eta_due, look, look0, rd_toNat, wrap64, Int.toNat_natCast, Nat.zero_add, List.take_length, List.drop_zero, and_self, setB_len, true_and, and_true, bytes_look, wrapB32, xrF, and1, shr1, not32, xr64]
           with_reducible refine hR _ ?_
           clear hR R)
        | (with_reducible refine kon_ins fun R hR => ?_
           dsimp only [go_sem, Nat.reduceAdd, Nat.reduceMul, Nat.reduceSub, Nat.reduceBEq, Nat.reduceLeDiff, Nat.reduceEqDiff, ↓dreduceIte, toG]
           first
             | with_reducible refine hR _ ?_
             | (simp (disch := first | omega | (simp only [List.length_set, List.length_append, List.length_cons, List.length_nil, List.length_replicate]; omega)) only [guardP_T, guardP_pos, iteN, rd_set, List.set_set, List.length_set, eta_fact, eta_rumor, eta_doubt, eta_item, eta_rec, eta_due, look, look0, rd_toNat, wrap64, Int.toNat_natCast, Nat.zero_add, List.take_length, List.drop_zero, and_self, setB_len, true_and, and_true, bytes_look, wrapB32, xrF, and1, shr1, not32, xr64]
                try dsimp only [go_sem, Nat.reduceAdd, Nat.reduceMul, Nat.reduceSub, Nat.reduceBEq, Nat.reduceLeDiff, Nat.reduceEqDiff, ↓dreduceIte, toG]
                try simp (disch := first | omega | (simp only [List.length_set, List.length_append, List.length_cons, List.length_nil, List.length_replicate]; omega)) only [guardP_T, guardP_pos, iteN, rd_set, List.set_set, List.length_set, eta_fact, eta_rumor, eta_doubt, eta_item, eta_rec, eta_due, look, look0, rd_toNat, wrap64, Int.toNat_natCast, Nat.zero_add, List.take_length, List.drop_zero, and_self, setB_len, true_and, and_true, bytes_look, wrapB32, xrF, and1, shr1, not32, xr64]
                with_reducible refine hR _ ?_)
           clear hR R)
        | (with_reducible refine kon_g_run ?_ ?_
           · dsimp only [nth] <;> with_reducible rfl)
        | (with_reducible refine kon_g_skip ?_ ?_
           · dsimp only [nth, not_t', not_f'] <;> with_reducible rfl
           dsimp only [go_sem])
        | (with_reducible refine kon_g_undef ?_ ?_
           · dsimp only [nth] <;> with_reducible rfl
           dsimp only [go_sem])
        | (with_reducible refine kon_g fun R hR => ?_
           dsimp only [go_sem, Nat.reduceAdd, Nat.reduceMul, Nat.reduceSub, Nat.reduceBEq, Nat.reduceLeDiff, Nat.reduceEqDiff, ↓dreduceIte, toG]
           split <;> (rename_i hb; with_reducible refine hR _ ?_; clear hR R; try simp only [hb]; try simp only [decide_eq_true_eq, decide_eq_false_iff_not, beq_iff_eq, beq_eq_false_iff_ne, bne_iff_ne, bne_eq_false_iff_eq, Bool.not_eq_true, Bool.not_eq_false, Bool.not_eq_eq_eq_not, Bool.not_true, Bool.not_false, ne_eq, Int.not_lt, Int.not_le, eq_self, not_true_eq_false, not_false_eq_true, decide_true, decide_false, Bool.and_eq_true, Bool.or_eq_true, Bool.and_eq_false_iff, Bool.or_eq_false_iff, gt_iff_lt, ge_iff_le, Bool.false_eq_true, Bool.true_eq_false, reduceCtorEq, or_false, false_or, or_true, true_or, false_and, and_false, bytes_look, wrapB32, xrF, and1, shr1, not32, xr64] at hb; try (exfalso; omega)))
        | (with_reducible refine kon_cond fun R1 R2 h1 h2 => ?_
           dsimp only [go_sem]
           first
             | (with_reducible refine h1 ?_; clear h1 h2 R1 R2)
             | (with_reducible refine h2 ?_; clear h1 h2 R1 R2)
             | (split <;> rename_i hb <;> first
                 | (with_reducible refine h1 ?_; clear h1 h2 R1 R2; try simp only [hb]; try simp only [decide_eq_true_eq, decide_eq_false_iff_not, beq_iff_eq, beq_eq_false_iff_ne, bne_iff_ne, bne_eq_false_iff_eq, Bool.not_eq_true, Bool.not_eq_false, Bool.not_eq_eq_eq_not, Bool.not_true, Bool.not_false, ne_eq, Int.not_lt, Int.not_le, eq_self, not_true_eq_false, not_false_eq_true, decide_true, decide_false, Bool.and_eq_true, Bool.or_eq_true, Bool.and_eq_false_iff, Bool.or_eq_false_iff, gt_iff_lt, ge_iff_le, Bool.false_eq_true, Bool.true_eq_false, reduceCtorEq, or_false, false_or, or_true, true_or, false_and, and_false, bytes_look, wrapB32, xrF, and1, shr1, not32, xr64] at hb; try (exfalso; omega))
                 | (with_reducible refine h2 ?_; clear h1 h2 R1 R2; try simp only [hb]; try simp only [decide_eq_true_eq, decide_eq_false_iff_not, beq_iff_eq, beq_eq_false_iff_ne, bne_iff_ne, bne_eq_false_iff_eq, Bool.not_eq_true, Bool.not_eq_false, Bool.not_eq_eq_eq_not, Bool.not_true, Bool.not_false, ne_eq, Int.not_lt, Int.not_le, eq_self, not_true_eq_false, not_false_eq_true, decide_true, decide_false, Bool.and_eq_true, Bool.or_eq_true, Bool.and_eq_false_iff, Bool.or_eq_false_iff, gt_iff_lt, ge_iff_le, Bool.false_eq_true, Bool.true_eq_false, reduceCtorEq, or_false, false_or, or_true, true_or, false_and, and_false, bytes_look, wrapB32, xrF, and1, shr1, not32, xr64] at hb; try (exfalso; omega))))
        | (with_reducible refine kon_rounds (a := lp200_0) [0, 1, 8, 9] (fun n9 s9 => ∃ (i r : Int), ((0 ≤ i) ∧ (i ≤ t.size) ∧ (0 ≤ r) ∧ (r < 4294967296) ∧ (crcL ((bytesOf t).drop i.toNat) r = crcL (bytesOf t) r0)) ∧ n9 = (t.size - i).toNat ∧ s9.m = [] ∧ s9.t = [.int .u32 r, .str t, nth s9.t 2, nth s9.t 3, nth s9.t 4, nth s9.t 5, nth s9.t 6, nth s9.t 7, .int .i64 t.size, .int .i64 i, nth s9.t 10, nth s9.t 11, nth s9.t 12, nth s9.t 13, nth s9.t 14, nth s9.t 15, nth s9.t 16, nth s9.t 17, nth s9.t 18, nth s9.t 19, nth s9.t 20, nth s9.t 21, nth s9.t 22, nth s9.t 23, nth s9.t 24, nth s9.t 25, nth s9.t 26, nth s9.t 27, nth s9.t 28, nth s9.t 29, nth s9.t 30]) ?_ ?_
           all_goals first
             | (rintro n9 ⟨t9, m9⟩ ⟨i, r, ⟨hI0, hI1, hI2, hI3, hI4⟩, rfl, hm9, ht9⟩
                dsimp only at hm9 ht9
                subst hm9
                rw [ht9]
                clear ht9
                dsimp only [lp200_0])
             | (dsimp only [go_sem, Nat.reduceAdd, Nat.reduceMul, Nat.reduceSub, Nat.reduceBEq, Nat.reduceLeDiff, Nat.reduceEqDiff, ↓dreduceIte, toG]
                refine ⟨_, _, _, ⟨?_, ?_, ?_, ?_, ?_⟩, rfl, rfl, rfl⟩))
        | (with_reducible refine loop_again (keep := [0, 1, 8, 9]) ?_
           dsimp only [go_sem, Nat.reduceAdd, Nat.reduceMul, Nat.reduceSub, Nat.reduceBEq, Nat.reduceLeDiff, Nat.reduceEqDiff, ↓dreduceIte, toG]
           refine ⟨_, ?_, _, _, ⟨?_, ?_, ?_, ?_, ?_⟩, rfl, rfl, rfl⟩)
        | (with_reducible refine kon_rounds (a := lp200_1) [0, 1, 8, 9, 18] (fun n9 s9 => ∃ (k r : Int), ((0 ≤ k) ∧ (k ≤ 8) ∧ (0 ≤ r) ∧ (r < 4294967296) ∧ (crcL ((bytesOf t).drop (i + 1).toNat) (crcB (8 - k).toNat r) = crcL (bytesOf t) r0)) ∧ n9 = (8 - k).toNat ∧ s9.m = [] ∧ s9.t = [.int .u32 r, .str t, nth s9.t 2, nth s9.t 3, nth s9.t 4, nth s9.t 5, nth s9.t 6, nth s9.t 7, .int .i64 t.size, .int .i64 i, nth s9.t 10, nth s9.t 11, nth s9.t 12, nth s9.t 13, nth s9.t 14, nth s9.t 15, nth s9.t 16, nth s9.t 17, .int .i64 k, nth s9.t 19, nth s9.t 20, nth s9.t 21, nth s9.t 22, nth s9.t 23, nth s9.t 24, nth s9.t 25, nth s9.t 26, nth s9.t 27, nth s9.t 28, nth s9.t 29, nth s9.t 30]) ?_ ?_
           all_goals first
             | (rintro n9 ⟨t9, m9⟩ ⟨k, r, ⟨hI0, hI1, hI2, hI3, hI4⟩, rfl, hm9, ht9⟩
                dsimp only at hm9 ht9
                subst hm9
                rw [ht9]
                clear ht9
                dsimp only [lp200_1])
             | (dsimp only [go_sem, Nat.reduceAdd, Nat.reduceMul, Nat.reduceSub, Nat.reduceBEq, Nat.reduceLeDiff, Nat.reduceEqDiff, ↓dreduceIte, toG]
                refine ⟨_, _, _, ⟨?_, ?_, ?_, ?_, ?_⟩, rfl, rfl, rfl⟩))
        | (with_reducible refine loop_again (keep := [0, 1, 8, 9, 18]) ?_
           dsimp only [go_sem, Nat.reduceAdd, Nat.reduceMul, Nat.reduceSub, Nat.reduceBEq, Nat.reduceLeDiff, Nat.reduceEqDiff, ↓dreduceIte, toG]
           refine ⟨_, ?_, _, _, ⟨?_, ?_, ?_, ?_, ?_⟩, rfl, rfl, rfl⟩)
      all_goals first
        | (dsimp only [kon]
           with_reducible refine hQ _ _ _ ?_
           dsimp only [kon, endQ, af200, conCrcMore, go_sem, Nat.reduceAdd, Nat.reduceMul, Nat.reduceSub, Nat.reduceBEq, Nat.reduceLeDiff, Nat.reduceEqDiff, ↓dreduceIte, toG]
           try simp (disch := first | omega | (simp only [List.length_set, List.length_append, List.length_cons, List.length_nil, List.length_replicate]; omega)) only [guardP_T, guardP_pos, iteN, rd_set, List.set_set, List.length_set, eta_fact, eta_rumor, eta_doubt, eta_item, eta_rec, eta_due, look, look0, rd_toNat, wrap64, Int.toNat_natCast, Nat.zero_add, List.take_length, List.drop_zero, and_self, setB_len, true_and, and_true]
           try dsimp only [go_sem, Nat.reduceAdd, Nat.reduceMul, Nat.reduceSub, Nat.reduceBEq, Nat.reduceLeDiff, Nat.reduceEqDiff, ↓dreduceIte, toG])
        | skip
      all_goals try first
        | omega
        | (simp; done)
        | (simp; omega)
      all_goals first
        | with_reducible exact (xr_bd _ _).1
        | with_reducible exact (xr_bd _ _).2
        | (refine Eq.trans ?_ hI4; rw [crc_step hI0 (by rw [bytes_len]; omega)]; done)
        | (refine Eq.trans ?_ hI4; rw [crcB_step (k := k) r (by omega), crcBit, if_pos (by omega)]; done)
        | (refine Eq.trans ?_ hI4; rw [crcB_step (k := k) r (by omega), crcBit, if_neg (by omega)]; done)
        | (refine Eq.trans ?_ hI4; rw [crcB_zero (k := k) r (by omega)]; done)
        | (rw [drop_all (by rw [bytes_len]; omega), crcL] at hI4; rw [hI4]; done)
        | rfl
    · simp at h'

def tb141 : Tab := fun f => match f with
  | 68 => some conLong
  | 200 => some conCrcMore
  | _ => none

theorem tb141_68 : tb141 68 = some conLong := rfl
theorem tb141_200 : tb141 200 = some conCrcMore := rfl

-- loop.example/g00678/impl.Crc hows []
def af141 : AF := ⟨9, [.t 2],
  .seq (.reg [⟨some 2, .mv (.i 0), none⟩])
  (.seq (.seq (.reg [⟨some 3, .mv (.t 0), none⟩,
    ⟨some 4, .call 68 [(.t 3)], none⟩])
  (.cond (.t 4)
    (.seq (.reg [⟨some 2, .mv (.i 0), none⟩])
    (.ret))
    (.skip)))
  (.seq (.reg [⟨some 5, .mv (.t 0), none⟩,
    ⟨some 6, .call 200 [(.c (.int .u32 4294967295)), (.t 5)], none⟩,
    ⟨some 7, .un .xor (.t 6), none⟩,
    ⟨some 8, .conv .i64 (.t 7), none⟩,
    ⟨some 2, .mv (.t 8), none⟩])
  (.ret)))⟩

set_option maxHeartbeats 4000000 in
theorem does141 (as : List AV) (hok : ok 64 as) : Does tb141 af141 conCrc as := by
  cases h : (conCrc).run as with
  | none => exact does_none h
  | some out =>
    have h' := h
    simp only [conCrc] at h'
    split at h'
    · rename_i t
      by_cases hp : t.size ≤ 8000 ∧ True
      case neg => simp [guardP, hp] at h'
      rw [guardP_pos hp] at h'
      obtain ⟨hp1, _⟩ := hp
      simp only [Option.some.injEq] at h'
      subst h'
      have hmo : (most : Int) = 1099511627776 := rfl
      have hml : (maxLen : Int) = 9223372036854775807 := rfl
      with_reducible refine does_by h fun Q hQ => ?_
      clear h
      dsimp only [af141, conCrc, go_sem, Nat.reduceAdd, Nat.reduceMul, Nat.reduceSub, Nat.reduceBEq, Nat.reduceLeDiff, Nat.reduceEqDiff, ↓dreduceIte, toG, tb141_68, tb141_200, conCrcMore, conLong]
      repeat' first
        | with_reducible refine kon_seq ?_
        | with_reducible refine kon_nil ?_
        | with_reducible refine kon_any ?_ ?_
        | with_reducible exact kon_any_nil
        | with_reducible refine kon_skip ?_
        | with_reducible refine kon_block ?_
        | with_reducible refine kon_ret ?_
        | with_reducible refine kon_exit ?_
        | with_reducible refine kon_past_ret ?_
        | with_reducible refine kon_past_exit ?_
        | with_reducible refine kon_blk_ret ?_
        | with_reducible refine kon_blk_end ?_
        | with_reducible refine kon_blk_exit ?_
        | (with_reducible refine kon_blk_past ?_ ?_
           · decide)
        | with_reducible refine loop_exit ?_
        | with_reducible refine loop_ret ?_
        | with_reducible refine mid_exit ?_
        | with_reducible refine mid_ret ?_
        | (with_reducible refine kon_bin fun R hR => ?_
           dsimp only [go_sem, Nat.reduceAdd, Nat.reduceMul, Nat.reduceSub, Nat.reduceBEq, Nat.reduceLeDiff, Nat.reduceEqDiff, ↓dreduceIte, toG, tb141_68, tb141_200, conCrcMore, conLong]
           try simp (disch := first | omega | (simp only [List.length_set, List.length_append, List.length_cons, List.length_nil, List.length_replicate]; omega)) only [guardP_T, guardP_pos, iteN, rd_set, List.set_set, List.length_set, eta_fact, eta_rumor, eta_doubt, eta_item, eta_rec, eta_due, look, look0, rd_toNat, wrap64, Int.toNat_natCast, Nat.zero_add, List.take_length, List.drop_zero, and_self, setB_len, true_and, and_true, bytes_look, wrapB32, xrF, and1, shr1, not32, xr64]
           with_reducible refine hR _ ?_
           clear hR R)
        | (with_reducible refine kon_conv fun R hR => ?_
           dsimp only [go_sem, Nat.reduceAdd, Nat.reduceMul, Nat.reduceSub, Nat.reduceBEq, Nat.reduceLeDiff, Nat.reduceEqDiff, ↓dreduceIte, toG, tb141_68, tb141_200, conCrcMore, conLong]
           try simp (disch := first | omega | (simp only [List.length_set, List.length_append, List.length_cons, List.length_nil, List.length_replicate]; omega)) only [guardP_T, guardP_pos, iteN, rd_set, List.set_set, List.length_set, eta_fact, eta_rumor, eta_doubt, eta_item, eta_rec, eta_due, look, look0, rd_toNat, wrap64, Int.toNat_natCast, Nat.zero_add, List.take_length, List.drop_zero, and_self, setB_len, true_and, and_true, bytes_look, wrapB32, xrF, and1, shr1, not32, xr64]
           with_reducible refine hR _ ?_
           clear hR R)
        | (with_reducible refine kon_ins fun R hR => ?_
           dsimp only [go_sem, Nat.reduceAdd, Nat.reduceMul, Nat.reduceSub, Nat.reduceBEq, Nat.reduceLeDiff, Nat.reduceEqDiff, ↓dreduceIte, toG, tb141_68, tb141_200, conCrcMore, conLong]
           first
             | with_reducible refine hR _ ?_
             | (simp (disch := first | omega | (simp only [List.length_set, List.length_append, List.length_cons, List.length_nil, List.length_replicate]; omega)) only [guardP_T, guardP_pos, iteN, rd_set, List.set_set, List.length_set, eta_fact, eta_rumor, eta_doubt, eta_item, eta_rec, eta_due, look, look0, rd_toNat, wrap64, Int.toNat_natCast, Nat.zero_add, List.take_length, List.drop_zero, and_self, setB_len, true_and, and_true, bytes_look, wrapB32, xrF, and1, shr1, not32, xr64]
                try dsimp only [go_sem, Nat.reduceAdd, Nat.reduceMul, Nat.reduceSub, Nat.reduceBEq, Nat.reduceLeDiff, Nat.reduceEqDiff, ↓dreduceIte, toG, tb141_68, tb141_200, conCrcMore, conLong]
                try simp (disch := first | omega | (simp only [List.length_set, List.length_append, List.length_cons, List.length_nil, List.length_replicate]; omega)) only [guardP_T, guardP_pos, iteN, rd_set, List.set_set, List.length_set, eta_fact, eta_rumor, eta_doubt, eta_item, eta_rec, eta_due, look, look0, rd_toNat, wrap64, Int.toNat_natCast, Nat.zero_add, List.take_length, List.drop_zero, and_self, setB_len, true_and, and_true, bytes_look, wrapB32, xrF, and1, shr1, not32, xr64]
                with_reducible refine hR _ ?_)
           clear hR R)
        | (with_reducible refine kon_g_run ?_ ?_
           · dsimp only [nth] <;> with_reducible rfl)
        | (with_reducible refine kon_g_skip ?_ ?_
           · dsimp only [nth, not_t', not_f'] <;> with_reducible rfl
           dsimp only [go_sem])
        | (with_reducible refine kon_g_undef ?_ ?_
           · dsimp only [nth] <;> with_reducible rfl
           dsimp only [go_sem])
        | (with_reducible refine kon_g fun R hR => ?_
           dsimp only [go_sem, Nat.reduceAdd, Nat.reduceMul, Nat.reduceSub, Nat.reduceBEq, Nat.reduceLeDiff, Nat.reduceEqDiff, ↓dreduceIte, toG, tb141_68, tb141_200, conCrcMore, conLong]
           split <;> (rename_i hb; with_reducible refine hR _ ?_; clear hR R; try simp only [hb]; try simp only [decide_eq_true_eq, decide_eq_false_iff_not, beq_iff_eq, beq_eq_false_iff_ne, bne_iff_ne, bne_eq_false_iff_eq, Bool.not_eq_true, Bool.not_eq_false, Bool.not_eq_eq_eq_not, Bool.not_true, Bool.not_false, ne_eq, Int.not_lt, Int.not_le, eq_self, not_true_eq_false, not_false_eq_true, decide_true, decide_false, Bool.and_eq_true, Bool.or_eq_true, Bool.and_eq_false_iff, Bool.or_eq_false_iff, gt_iff_lt, ge_iff_le, Bool.false_eq_true, Bool.true_eq_false, reduceCtorEq, or_false, false_or, or_true, true_or, false_and, and_false, bytes_look, wrapB32, xrF, and1, shr1, not32, xr64] at hb; try (exfalso; omega)))
        | (with_reducible refine kon_cond fun R1 R2 h1 h2 => ?_
           dsimp only [go_sem]
           first
             | (with_reducible refine h1 ?_; clear h1 h2 R1 R2)
             | (with_reducible refine h2 ?_; clear h1 h2 R1 R2)
             | (split <;> rename_i hb <;> first
                 | (with_reducible refine h1 ?_; clear h1 h2 R1 R2; try simp only [hb]; try simp only [decide_eq_true_eq, decide_eq_false_iff_not, beq_iff_eq, beq_eq_false_iff_ne, bne_iff_ne, bne_eq_false_iff_eq, Bool.not_eq_true, Bool.not_eq_false, Bool.not_eq_eq_eq_not, Bool.not_true, Bool.not_false, ne_eq, Int.not_lt, Int.not_le, eq_self, not_true_eq_false, not_false_eq_true, decide_true, decide_false, Bool.and_eq_true, Bool.or_eq_true, Bool.and_eq_false_iff, Bool.or_eq_false_iff, gt_iff_lt, ge_iff_le, Bool.false_eq_true, Bool.true_eq_false, reduceCtorEq, or_false, false_or, or_true, true_or, false_and, and_false, bytes_look, wrapB32, xrF, and1, shr1, not32, xr64] at hb; try (exfalso; omega))
                 | (with_reducible refine h2 ?_; clear h1 h2 R1 R2; try simp only [hb]; try simp only [decide_eq_true_eq, decide_eq_false_iff_not, beq_iff_eq, beq_eq_false_iff_ne, bne_iff_ne, bne_eq_false_iff_eq, Bool.not_eq_true, Bool.not_eq_false, Bool.not_eq_eq_eq_not, Bool.not_true, Bool.not_false, ne_eq, Int.not_lt, Int.not_le, eq_self, not_true_eq_false, not_false_eq_true, decide_true, decide_false, Bool.and_eq_true, Bool.or_eq_true, Bool.and_eq_false_iff, Bool.or_eq_false_iff, gt_iff_lt, ge_iff_le, Bool.false_eq_true, Bool.true_eq_false, reduceCtorEq, or_false, false_or, or_true, true_or, false_and, and_false, bytes_look, wrapB32, xrF, and1, shr1, not32, xr64] at hb; try (exfalso; omega))))
      all_goals first
        | (dsimp only [kon]
           with_reducible refine hQ _ _ _ ?_
           dsimp only [kon, endQ, af141, conCrc, go_sem, Nat.reduceAdd, Nat.reduceMul, Nat.reduceSub, Nat.reduceBEq, Nat.reduceLeDiff, Nat.reduceEqDiff, ↓dreduceIte, toG, tb141_68, tb141_200, conCrcMore, conLong]
           try simp (disch := first | omega | (simp only [List.length_set, List.length_append, List.length_cons, List.length_nil, List.length_replicate]; omega)) only [guardP_T, guardP_pos, iteN, rd_set, List.set_set, List.length_set, eta_fact, eta_rumor, eta_doubt, eta_item, eta_rec, eta_due, look, look0, rd_toNat, wrap64, Int.toNat_natCast, Nat.zero_add, List.take_length, List.drop_zero, and_self, setB_len, true_and, and_true]
           try dsimp only [go_sem, Nat.reduceAdd, Nat.reduceMul, Nat.reduceSub, Nat.reduceBEq, Nat.reduceLeDiff, Nat.reduceEqDiff, ↓dreduceIte, toG, tb141_68, tb141_200, conCrcMore, conLong])
        | skip
      all_goals try first
        | omega
        | (simp; done)
        | (simp; omega)
      all_goals first
        | (rw [show (if IntKind.u32.signed = true then -1 else IntKind.u32.max : Int) = 4294967295 from rfl, xr_comm]; rfl)
    · simp at h'

-- loop.example/g00678/spec.l01Crc hows []
def lp198_1 : AC := .seq (.seq (.reg [⟨some 23, .mv (.t 7), none⟩,
              ⟨some 24, .bin .lss (.t 23) (.i 8), none⟩])
            (.cond (.t 24)
              (.skip)
              (.exit 2)))
            (.seq (.block 3 (.seq (.reg [⟨some 27, .mv (.t 5), none⟩,
                ⟨some 28, .bin .and (.t 27) (.c (.int .u32 1)), none⟩,
                ⟨some 29, .bin .eql (.t 28) (.c (.int .u32 1)), none⟩])
              (.cond (.t 29)
                (.reg [⟨some 30, .mv (.t 5), none⟩,
                  ⟨some 31, .bin .shr (.t 30) (.c (.int .u64 1)), none⟩,
                  ⟨some 32, .bin .xor (.t 31) (.c (.int .u32 3988292384)), none⟩,
                  ⟨some 5, .mv (.t 32), none⟩])
                (.reg [⟨some 33, .mv (.t 5), none⟩,
                  ⟨some 34, .bin .shr (.t 33) (.c (.int .u64 1)), none⟩,
                  ⟨some 5, .mv (.t 34), none⟩]))))
            (.reg [⟨some 25, .mv (.t 7), none⟩,
              ⟨some 26, .bin .add (.t 25) (.i 1), none⟩,
              ⟨some 7, .mv (.t 26), none⟩]))
def lp198_0 : AC := .seq (.seq (.reg [⟨some 11, .mv (.t 6), none⟩,
        ⟨some 12, .mv (.t 1), none⟩,
        ⟨some 13, .lens (.t 12), none⟩,
        ⟨some 14, .bin .lss (.t 11) (.t 13), none⟩])
      (.cond (.t 14)
        (.skip)
        (.exit 0)))
      (.seq (.block 1 (.seq (.reg [⟨some 17, .mv (.t 5), none⟩,
          ⟨some 18, .mv (.t 1), none⟩,
          ⟨some 19, .mv (.t 6), none⟩,
          ⟨some 20, .ixs (.t 18) (.t 19), none⟩,
          ⟨some 21, .conv .u32 (.t 20), none⟩,
          ⟨some 22, .bin .xor (.t 17) (.t 21), none⟩,
          ⟨some 5, .mv (.t 22), none⟩])
        (.seq (.reg [⟨some 7, .mv (.i 0), none⟩])
        (.block 2 (.loop lp198_1)))))
      (.reg [⟨some 15, .mv (.t 6), none⟩,
        ⟨some 16, .bin .add (.t 15) (.i 1), none⟩,
        ⟨some 6, .mv (.t 16), none⟩]))
def af198 : AF := ⟨38, [.t 4],
  .seq (.reg [⟨some 4, .mv (.i 0), none⟩])
  (.seq (.reg [⟨some 8, .mv (.t 0), none⟩,
    ⟨some 9, .conv .u32 (.t 8), none⟩,
    ⟨some 10, .bin .xor (.t 9) (.c (.int .u32 4294967295)), none⟩,
    ⟨some 5, .mv (.t 10), none⟩])
  (.seq (.seq (.reg [⟨some 6, .mv (.i 0), none⟩])
  (.block 0 (.loop lp198_0)))
  (.seq (.reg [⟨some 35, .mv (.t 5), none⟩,
    ⟨some 36, .bin .xor (.t 35) (.c (.int .u32 4294967295)), none⟩,
    ⟨some 37, .conv .i64 (.t 36), none⟩,
    ⟨some 4, .mv (.t 37), none⟩])
  (.ret))))⟩

set_option maxHeartbeats 4000000 in
theorem does198 (as : List AV) (hok : ok 64 as) : Does tbNone af198 conCrcS as := by
  cases h : (conCrcS).run as with
  | none => exact does_none h
  | some out =>
    have h' := h
    simp only [conCrcS] at h'
    split at h'
    · rename_i c t
      by_cases hp : c = 0 ∧ t.size ≤ 8000
      case neg => simp [guardP, hp] at h'
      rw [guardP_pos hp] at h'
      obtain ⟨hp1, hp2⟩ := hp
      subst hp1
      simp only [Option.some.injEq] at h'
      subst h'
      have hmo : (most : Int) = 1099511627776 := rfl
      have hml : (maxLen : Int) = 9223372036854775807 := rfl
      with_reducible refine does_by h fun Q hQ => ?_
      clear h
      dsimp only [af198, conCrcS, go_sem, Nat.reduceAdd, Nat.reduceMul, Nat.reduceSub, Nat.reduceBEq, Nat.reduceLeDiff, Nat.reduceEqDiff, ↓dreduceIte, toG]
      repeat' first
        | with_reducible refine kon_seq ?_
        | with_reducible refine kon_nil ?_
        | with_reducible refine kon_any ?_ ?_
        | with_reducible exact kon_any_nil
        | with_reducible refine kon_skip ?_
        | with_reducible refine kon_block ?_
        | with_reducible refine kon_ret ?_
        | with_reducible refine kon_exit ?_
        | with_reducible refine kon_past_ret ?_
        | with_reducible refine kon_past_exit ?_
        | with_reducible refine kon_blk_ret ?_
        | with_reducible refine kon_blk_end ?_
        | with_reducible refine kon_blk_exit ?_
        | (with_reducible refine kon_blk_past ?_ ?_
           · decide)
        | with_reducible refine loop_exit ?_
        | with_reducible refine loop_ret ?_
        | with_reducible refine mid_exit ?_
        | with_reducible refine mid_ret ?_
        | (with_reducible refine kon_bin fun R hR => ?_
           dsimp only [go_sem, Nat.reduceAdd, Nat.reduceMul, Nat.reduceSub, Nat.reduceBEq, Nat.reduceLeDiff, Nat.reduceEqDiff, ↓dreduceIte, toG]
           try simp (disch := first | omega | (simp only [List.length_set, List.length_append, List.length_cons, List.length_nil, List.length_replicate]; omega)) only [guardP_T, guardP_pos, iteN, rd_set, List.set_set, List.length_set, eta_fact, eta_rumor, eta_doubt, eta_item, eta_rec, eta_due, look, look0, rd_toNat, wrap64, Int.toNat_natCast, Nat.zero_add, List.take_length, List.drop_zero, and_self, setB_len, true_and, and_true, bytes_look, wrapB32, xrF, and1, shr1, not32, xr64, wrap0, xr0]
           with_reducible refine hR _ ?_
           clear hR R)
        | (with_reducible refine kon_conv fun R hR => ?_
           dsimp only [go_sem, Nat.reduceAdd, Nat.reduceMul, Nat.reduceSub, Nat.reduceBEq, Nat.reduceLeDiff, Nat.reduceEqDiff, ↓dreduceIte, toG]
           try simp (disch := first | omega | (simp only [List.length_set, List.length_append, List.length_cons, List.length_nil, List.length_replicate]; omega)) only [guardP_T, guardP_pos, iteN, rd_set, List.set_set, List.length_set, eta_fact, eta_rumor, eta_doubt, eta_item, eta_rec, eta_due, look, look0, rd_toNat, wrap64, Int.toNat_natCast, Nat.zero_add, List.take_length, List.drop_zero, and_self, setB_len, true_and, and_true, bytes_look, wrapB32, xrF, and1, shr1, not32, xr64, wrap0, xr0]
           with_reducible refine hR _ ?_
           clear hR R)
        | (with_reducible refine kon_ins fun R hR => ?_
           dsimp only [go_sem, Nat.reduceAdd, Nat.reduceMul, Nat.reduceSub, Nat.reduceBEq, Nat.reduceLeDiff, Nat.reduceEqDiff, ↓dreduceIte, toG]
           first
             | with_reducible refine hR _ ?_
             | (simp (disch := first | omega | (simp only [List.length_set, List.length_append, List.length_cons, List.length_nil, List.length_replicate]; omega)) only [guardP_T, guardP_pos, iteN, rd_set, List.set_set, List.length_set, eta_fact, eta_rumor, eta_doubt, eta_item, eta_rec, eta_due, look, look0, rd_toNat, wrap64, Int.toNat_natCast, Nat.zero_add, List.take_length, List.drop_zero, and_self, setB_len, true_and, and_true, bytes_look, wrapB32, xrF, and1, shr1, not32, xr64, wrap0, xr0]
                try dsimp only [go_sem, Nat.reduceAdd, Nat.reduceMul, Nat.reduceSub, Nat.reduceBEq, Nat.reduceLeDiff, Nat.reduceEqDiff, ↓dreduceIte, toG]
                try simp (disch := first | omega | (simp only [List.length_set, List.length_append, List.length_cons, List.length_nil, List.length_replicate]; omega)) only [guardP_T, guardP_pos, iteN, rd_set, List.set_set, List.length_set, eta_fact, eta_rumor, eta_doubt, eta_item, eta_rec, eta_due, look, look0, rd_toNat, wrap64, Int.toNat_natCast, Nat.zero_add, List.take_length, List.drop_zero, and_self, setB_len, true_and, and_true, bytes_look, wrapB32, xrF, and1, shr1, not32, xr64, wrap0, xr0]
                with_reducible refine hR _ ?_)
           clear hR R)
        | (with_reducible refine kon_g_run ?_ ?_
           · dsimp only [nth] <;> with_reducible rfl)
        | (with_reducible refine kon_g_skip ?_ ?_
           · dsimp only [nth, not_t', not_f'] <;> with_reducible rfl
           dsimp only [go_sem])
        | (with_reducible refine kon_g_undef ?_ ?_
           · dsimp only [nth] <;> with_reducible rfl
           dsimp only [go_sem])
        | (with_reducible refine kon_g fun R hR => ?_
           dsimp only [go_sem, Nat.reduceAdd, Nat.reduceMul, Nat.reduceSub, Nat.reduceBEq, Nat.reduceLeDiff, Nat.reduceEqDiff, ↓dreduceIte, toG]
           split <;> (rename_i hb; with_reducible refine hR _ ?_; clear hR R; try simp only [hb]; try simp only [decide_eq_true_eq, decide_eq_false_iff_not, beq_iff_eq, beq_eq_false_iff_ne, bne_iff_ne, bne_eq_false_iff_eq, Bool.not_eq_true, Bool.not_eq_false, Bool.not_eq_eq_eq_not, Bool.not_true, Bool.not_false, ne_eq, Int.not_lt, Int.not_le, eq_self, not_true_eq_false, not_false_eq_true, decide_true, decide_false, Bool.and_eq_true, Bool.or_eq_true, Bool.and_eq_false_iff, Bool.or_eq_false_iff, gt_iff_lt, ge_iff_le, Bool.false_eq_true, Bool.true_eq_false, reduceCtorEq, or_false, false_or, or_true, true_or, false_and, and_false, bytes_look, wrapB32, xrF, and1, shr1, not32, xr64, wrap0, xr0] at hb; try (exfalso; omega)))
        | (with_reducible refine kon_cond fun R1 R2 h1 h2 => ?_
           dsimp only [go_sem]
           first
             | (with_reducible refine h1 ?_; clear h1 h2 R1 R2)
             | (with_reducible refine h2 ?_; clear h1 h2 R1 R2)
             | (split <;> rename_i hb <;> first
                 | (with_reducible refine h1 ?_; clear h1 h2 R1 R2; try simp only [hb]; try simp only [decide_eq_true_eq, decide_eq_false_iff_not, beq_iff_eq, beq_eq_false_iff_ne, bne_iff_ne, bne_eq_false_iff_eq, Bool.not_eq_true, Bool.not_eq_false, Bool.not_eq_eq_eq_not, Bool.not_true, Bool.not_false, ne_eq, Int.not_lt, Int.not_le, eq_self, not_true_eq_false, not_false_eq_true, decide_true, decide_false, Bool.and_eq_true, Bool.or_eq_true, Bool.and_eq_false_iff, Bool.or_eq_false_iff, gt_iff_lt, ge_iff_le, Bool.false_eq_true, Bool.true_eq_false, reduceCtorEq, or_false, false_or, or_true, true_or, false_and, and_false, bytes_look, wrapB32, xrF, and1, shr1, not32, xr64, wrap0, xr0] at hb; try (exfalso; omega))
                 | (with_reducible refine h2 ?_; clear h1 h2 R1 R2; try simp only [hb]; try simp only [decide_eq_true_eq, decide_eq_false_iff_not, beq_iff_eq, beq_eq_false_iff_ne, bne_iff_ne, bne_eq_false_iff_eq, Bool.not_eq_true, Bool.not_eq_false, Bool.not_eq_eq_eq_not, Bool.not_true, Bool.not_false, ne_eq, Int.not_lt, Int.not_le, eq_self, not_true_eq_false, not_false_eq_true, decide_true, decide_false, Bool.and_eq_true, Bool.or_eq_true, Bool.and_eq_false_iff, Bool.or_eq_false_iff, gt_iff_lt, ge_iff_le, Bool.false_eq_true, Bool.true_eq_false, reduceCtorEq, or_false, false_or, or_true, true_or, false_and, and_false, bytes_look, wrapB32, xrF, and1, shr1, not32, xr64, wrap0, xr0] at hb; try (exfalso; omega))))
        | (with_reducible refine kon_rounds (a := lp198_0) [1, 5, 6] (fun n9 s9 => ∃ (i r : Int), ((0 ≤ i) ∧ (i ≤ t.size) ∧ (0 ≤ r) ∧ (r < 4294967296) ∧ (crcL ((bytesOf t).drop i.toNat) r = crcL (bytesOf t) 4294967295)) ∧ n9 = (t.size - i).toNat ∧ s9.m = [] ∧ s9.t = [nth s9.t 0, .str t, nth s9.t 2, nth s9.t 3, nth s9.t 4, .int .u32 r, .int .i64 i, nth s9.t 7, nth s9.t 8, nth s9.t 9, nth s9.t 10, nth s9.t 11, nth s9.t 12, nth s9.t 13, nth s9.t 14, nth s9.t 15, nth s9.t 16, nth s9.t 17, nth s9.t 18, nth s9.t 19, nth s9.t 20, nth s9.t 21, nth s9.t 22, nth s9.t 23, nth s9.t 24, nth s9.t 25, nth s9.t 26, nth s9.t 27, nth s9.t 28, nth s9.t 29, nth s9.t 30, nth s9.t 31, nth s9.t 32, nth s9.t 33, nth s9.t 34, nth s9.t 35, nth s9.t 36, nth s9.t 37]) ?_ ?_
           all_goals first
             | (rintro n9 ⟨t9, m9⟩ ⟨i, r, ⟨hI0, hI1, hI2, hI3, hI4⟩, rfl, hm9, ht9⟩
                dsimp only at hm9 ht9
                subst hm9
                rw [ht9]
                clear ht9
                dsimp only [lp198_0])
             | (dsimp only [go_sem, Nat.reduceAdd, Nat.reduceMul, Nat.reduceSub, Nat.reduceBEq, Nat.reduceLeDiff, Nat.reduceEqDiff, ↓dreduceIte, toG]
                refine ⟨_, _, _, ⟨?_, ?_, ?_, ?_, ?_⟩, rfl, rfl, rfl⟩))
        | (with_reducible refine loop_again (keep := [1, 5, 6]) ?_
           dsimp only [go_sem, Nat.reduceAdd, Nat.reduceMul, Nat.reduceSub, Nat.reduceBEq, Nat.reduceLeDiff, Nat.reduceEqDiff, ↓dreduceIte, toG]
           refine ⟨_, ?_, _, _, ⟨?_, ?_, ?_, ?_, ?_⟩, rfl, rfl, rfl⟩)
        | (with_reducible refine kon_rounds (a := lp198_1) [1, 5, 6, 7] (fun n9 s9 => ∃ (k r : Int), ((0 ≤ k) ∧ (k ≤ 8) ∧ (0 ≤ r) ∧ (r < 4294967296) ∧ (crcL ((bytesOf t).drop (i + 1).toNat) (crcB (8 - k).toNat r) = crcL (bytesOf t) 4294967295)) ∧ n9 = (8 - k).toNat ∧ s9.m = [] ∧ s9.t = [nth s9.t 0, .str t, nth s9.t 2, nth s9.t 3, nth s9.t 4, .int .u32 r, .int .i64 i, .int .i64 k, nth s9.t 8, nth s9.t 9, nth s9.t 10, nth s9.t 11, nth s9.t 12, nth s9.t 13, nth s9.t 14, nth s9.t 15, nth s9.t 16, nth s9.t 17, nth s9.t 18, nth s9.t 19, nth s9.t 20, nth s9.t 21, nth s9.t 22, nth s9.t 23, nth s9.t 24, nth s9.t 25, nth s9.t 26, nth s9.t 27, nth s9.t 28, nth s9.t 29, nth s9.t 30, nth s9.t 31, nth s9.t 32, nth s9.t 33, nth s9.t 34, nth s9.t 35, nth s9.t 36, nth s9.t 37]) ?_ ?_
           all_goals first
             | (rintro n9 ⟨t9, m9⟩ ⟨k, r, ⟨hI0, hI1, hI2, hI3, hI4⟩, rfl, hm9, ht9⟩
                dsimp only at hm9 ht9
                subst hm9
                rw [ht9]
                clear ht9
                dsimp only [lp198_1])
             | (dsimp only [go_sem, Nat.reduceAdd, Nat.reduceMul, Nat.reduceSub, Nat.reduceBEq, Nat.reduceLeDiff, Nat.reduceEqDiff, ↓dreduceIte, toG]
                refine ⟨_, _, _, ⟨?_, ?_, ?_, ?_, ?_⟩, rfl, rfl, rfl⟩))
        | (with_reducible refine loop_again (keep := [1, 5, 6, 7]) ?_
           dsimp only [go_sem, Nat.reduceAdd, Nat.reduceMul, Nat.reduceSub, Nat.reduceBEq, Nat.reduceLeDiff, Nat.reduceEqDiff, ↓dreduceIte, toG]
           refine ⟨_, ?_, _, _, ⟨?_, ?_, ?_, ?_, ?_⟩, rfl, rfl, rfl⟩)
      all_goals first
        | (dsimp only [kon]
           with_reducible refine hQ _ _ _ ?_
           dsimp only [kon, endQ, af198, conCrcS, go_sem, Nat.reduceAdd, Nat.reduceMul, Nat.reduceSub, Nat.reduceBEq, Nat.reduceLeDiff, Nat.reduceEqDiff, ↓dreduceIte, toG]
           try simp (disch := first | omega | (simp only [List.length_set, List.length_append, List.length_cons, List.length_nil, List.length_replicate]; omega)) only [guardP_T, guardP_pos, iteN, rd_set, List.set_set, List.length_set, eta_fact, eta_rumor, eta_doubt, eta_item, eta_rec, eta_due, look, look0, rd_toNat, wrap64, Int.toNat_natCast, Nat.zero_add, List.take_length, List.drop_zero, and_self, setB_len, true_and, and_true]
           try dsimp only [go_sem, Nat.reduceAdd, Nat.reduceMul, Nat.reduceSub, Nat.reduceBEq, Nat.reduceLeDiff, Nat.reduceEqDiff, ↓dreduceIte, toG])
        | skip
      all_goals try first
        | omega
        | (simp; done)
        | (simp; omega)
      all_goals first
        | with_reducible exact (xr_bd _ _).1
        | with_reducible exact (xr_bd _ _).2
        | (refine Eq.trans ?_ hI4; rw [crc_step hI0 (by rw [bytes_len]; omega)]; done)
        | (refine Eq.trans ?_ hI4; rw [crcB_step (k := k) r (by omega), crcBit, if_pos (by omega)]; done)
        | (refine Eq.trans ?_ hI4; rw [crcB_step (k := k) r (by omega), crcBit, if_neg (by omega)]; done)
        | (refine Eq.trans ?_ hI4; rw [crcB_zero (k := k) r (by omega)]; done)
        | (rw [drop_all (by rw [bytes_len]; omega), crcL] at hI4; rw [hI4]; done)
        | (rw [drop_all (by rw [bytes_len]; omega), crcL] at hI4; rw [crcOf, ← hI4]; done)
        | rfl
    · simp at h'

-- loop.example/g00678/spec.l01Four hows []
def af197 : AF := ⟨16, [.t 2],
  .seq (.reg [⟨some 2, .mv (.c (.str ⟨#[]⟩)), none⟩])
  (.seq (.reg [⟨some 3, .mv (.t 0), none⟩,
    ⟨some 4, .conv .u8 (.t 3), none⟩,
    ⟨some 5, .mv (.t 0), none⟩,
    ⟨some 6, .bin .shr (.t 5) (.c (.int .u64 8)), none⟩,
    ⟨some 7, .conv .u8 (.t 6), none⟩,
    ⟨some 8, .mv (.t 0), none⟩,
    ⟨some 9, .bin .shr (.t 8) (.c (.int .u64 16)), none⟩,
    ⟨some 10, .conv .u8 (.t 9), none⟩,
    ⟨some 11, .mv (.t 0), none⟩,
    ⟨some 12, .bin .shr (.t 11) (.c (.int .u64 24)), none⟩,
    ⟨some 13, .conv .u8 (.t 12), none⟩,
    ⟨some 14, .slit .u8 [(.t 4), (.t 7), (.t 10), (.t 13)], none⟩,
    ⟨some 15, .b2s (.t 14), none⟩,
    ⟨some 2, .mv (.t 15), none⟩])
  (.ret))⟩

set_option maxHeartbeats 4000000 in
theorem does197 (as : List AV) (hok : ok 64 as) : Does tbNone af197 conFour as := by
  cases h : (conFour).run as with
  | none => exact does_none h
  | some out =>
    have h' := h
    simp only [conFour] at h'
    split at h'
    · rename_i n
      simp only [Option.some.injEq] at h'
      subst h'
      have hmo : (most : Int) = 1099511627776 := rfl
      have hml : (maxLen : Int) = 9223372036854775807 := rfl
      with_reducible refine does_by h fun Q hQ => ?_
      clear h
      dsimp only [af197, conFour, go_sem, Nat.reduceAdd, Nat.reduceMul, Nat.reduceSub, Nat.reduceBEq, Nat.reduceLeDiff, Nat.reduceEqDiff, ↓dreduceIte, toG]
      repeat' first
        | with_reducible refine kon_seq ?_
        | with_reducible refine kon_nil ?_
        | with_reducible refine kon_any ?_ ?_
        | with_reducible exact kon_any_nil
        | with_reducible refine kon_skip ?_
        | with_reducible refine kon_block ?_
        | with_reducible refine kon_ret ?_
        | with_reducible refine kon_exit ?_
        | with_reducible refine kon_past_ret ?_
        | with_reducible refine kon_past_exit ?_
        | with_reducible refine kon_blk_ret ?_
        | with_reducible refine kon_blk_end ?_
        | with_reducible refine kon_blk_exit ?_
        | (with_reducible refine kon_blk_past ?_ ?_
           · decide)
        | with_reducible refine loop_exit ?_
        | with_reducible refine loop_ret ?_
        | with_reducible refine mid_exit ?_
        | with_reducible refine mid_ret ?_
        | (with_reducible refine kon_bin fun R hR => ?_
           dsimp only [go_sem, Nat.reduceAdd, Nat.reduceMul, Nat.reduceSub, Nat.reduceBEq, Nat.reduceLeDiff, Nat.reduceEqDiff, ↓dreduceIte, toG]
           try simp (disch := first | omega | (simp only [List.length_set, List.length_append, List.length_cons, List.length_nil, List.length_replicate]; omega)) only [guardP_T, guardP_pos, iteN, rd_set, List.set_set, List.length_set, eta_fact, eta_rumor, eta_doubt, eta_item, eta_rec, eta_due, look, look0, rd_toNat, wrap64, Int.toNat_natCast, Nat.zero_add, List.take_length, List.drop_zero, and_self, setB_len, true_and, and_true, shr8, shr16, shr24, wrapU8]
           with_reducible refine hR _ ?_
           clear hR R)
        | (with_reducible refine kon_conv fun R hR => ?_
           dsimp only [go_sem, Nat.reduceAdd, Nat.reduceMul, Nat.reduceSub, Nat.reduceBEq, Nat.reduceLeDiff, Nat.reduceEqDiff, ↓dreduceIte, toG]
           try simp (disch := first | omega | (simp only [List.length_set, List.length_append, List.length_cons, List.length_nil, List.length_replicate]; omega)) only [guardP_T, guardP_pos, iteN, rd_set, List.set_set, List.length_set, eta_fact, eta_rumor, eta_doubt, eta_item, eta_rec, eta_due, look, look0, rd_toNat, wrap64, Int.toNat_natCast, Nat.zero_add, List.take_length, List.drop_zero, and_self, setB_len, true_and, and_true, shr8, shr16, shr24, wrapU8]
           with_reducible refine hR _ ?_
           clear hR R)
        | (with_reducible refine kon_ins fun R hR => ?_
           dsimp only [go_sem, Nat.reduceAdd, Nat.reduceMul, Nat.reduceSub, Nat.reduceBEq, Nat.reduceLeDiff, Nat.reduceEqDiff, ↓dreduceIte, toG]
           first
             | with_reducible refine hR _ ?_
             | (simp (disch := first | omega | (simp only [List.length_set, List.length_append, List.length_cons, List.length_nil, List.length_replicate]; omega)) only [guardP_T, guardP_pos, iteN, rd_set, List.set_set, List.length_set, eta_fact, eta_rumor, eta_doubt, eta_item, eta_rec, eta_due, look, look0, rd_toNat, wrap64, Int.toNat_natCast, Nat.zero_add, List.take_length, List.drop_zero, and_self, setB_len, true_and, and_true, shr8, shr16, shr24, wrapU8]
                try dsimp only [go_sem, Nat.reduceAdd, Nat.reduceMul, Nat.reduceSub, Nat.reduceBEq, Nat.reduceLeDiff, Nat.reduceEqDiff, ↓dreduceIte, toG]
                try simp (disch := first | omega | (simp only [List.length_set, List.length_append, List.length_cons, List.length_nil, List.length_replicate]; omega)) only [guardP_T, guardP_pos, iteN, rd_set, List.set_set, List.length_set, eta_fact, eta_rumor, eta_doubt, eta_item, eta_rec, eta_due, look, look0, rd_toNat, wrap64, Int.toNat_natCast, Nat.zero_add, List.take_length, List.drop_zero, and_self, setB_len, true_and, and_true, shr8, shr16, shr24, wrapU8]
                with_reducible refine hR _ ?_)
           clear hR R)
        | (with_reducible refine kon_g_run ?_ ?_
           · dsimp only [nth] <;> with_reducible rfl)
        | (with_reducible refine kon_g_skip ?_ ?_
           · dsimp only [nth, not_t', not_f'] <;> with_reducible rfl
           dsimp only [go_sem])
        | (with_reducible refine kon_g_undef ?_ ?_
           · dsimp only [nth] <;> with_reducible rfl
           dsimp only [go_sem])
        | (with_reducible refine kon_g fun R hR => ?_
           dsimp only [go_sem, Nat.reduceAdd, Nat.reduceMul, Nat.reduceSub, Nat.reduceBEq, Nat.reduceLeDiff, Nat.reduceEqDiff, ↓dreduceIte, toG]
           split <;> (rename_i hb; with_reducible refine hR _ ?_; clear hR R; try simp only [hb]; try simp only [decide_eq_true_eq, decide_eq_false_iff_not, beq_iff_eq, beq_eq_false_iff_ne, bne_iff_ne, bne_eq_false_iff_eq, Bool.not_eq_true, Bool.not_eq_false, Bool.not_eq_eq_eq_not, Bool.not_true, Bool.not_false, ne_eq, Int.not_lt, Int.not_le, eq_self, not_true_eq_false, not_false_eq_true, decide_true, decide_false, Bool.and_eq_true, Bool.or_eq_true, Bool.and_eq_false_iff, Bool.or_eq_false_iff, gt_iff_lt, ge_iff_le, Bool.false_eq_true, Bool.true_eq_false, reduceCtorEq, or_false, false_or, or_true, true_or, false_and, and_false, shr8, shr16, shr24, wrapU8] at hb; try (exfalso; omega)))
        | (with_reducible refine kon_cond fun R1 R2 h1 h2 => ?_
           dsimp only [go_sem]
           first
             | (with_reducible refine h1 ?_; clear h1 h2 R1 R2)
             | (with_reducible refine h2 ?_; clear h1 h2 R1 R2)
             | (split <;> rename_i hb <;> first
                 | (with_reducible refine h1 ?_; clear h1 h2 R1 R2; try simp only [hb]; try simp only [decide_eq_true_eq, decide_eq_false_iff_not, beq_iff_eq, beq_eq_false_iff_ne, bne_iff_ne, bne_eq_false_iff_eq, Bool.not_eq_true, Bool.not_eq_false, Bool.not_eq_eq_eq_not, Bool.not_true, Bool.not_false, ne_eq, Int.not_lt, Int.not_le, eq_self, not_true_eq_false, not_false_eq_true, decide_true, decide_false, Bool.and_eq_true, Bool.or_eq_true, Bool.and_eq_false_iff, Bool.or_eq_false_iff, gt_iff_lt, ge_iff_le, Bool.false_eq_true, Bool.true_eq_false, reduceCtorEq, or_false, false_or, or_true, true_or, false_and, and_false, shr8, shr16, shr24, wrapU8] at hb; try (exfalso; omega))
                 | (with_reducible refine h2 ?_; clear h1 h2 R1 R2; try simp only [hb]; try simp only [decide_eq_true_eq, decide_eq_false_iff_not, beq_iff_eq, beq_eq_false_iff_ne, bne_iff_ne, bne_eq_false_iff_eq, Bool.not_eq_true, Bool.not_eq_false, Bool.not_eq_eq_eq_not, Bool.not_true, Bool.not_false, ne_eq, Int.not_lt, Int.not_le, eq_self, not_true_eq_false, not_false_eq_true, decide_true, decide_false, Bool.and_eq_true, Bool.or_eq_true, Bool.and_eq_false_iff, Bool.or_eq_false_iff, gt_iff_lt, ge_iff_le, Bool.false_eq_true, Bool.true_eq_false, reduceCtorEq, or_false, false_or, or_true, true_or, false_and, and_false, shr8, shr16, shr24, wrapU8] at hb; try (exfalso; omega))))
      all_goals first
        | (dsimp only [kon]
           with_reducible refine hQ _ _ _ ?_
           dsimp only [kon, endQ, af197, conFour, go_sem, Nat.reduceAdd, Nat.reduceMul, Nat.reduceSub, Nat.reduceBEq, Nat.reduceLeDiff, Nat.reduceEqDiff, ↓dreduceIte, toG]
           try simp (disch := first | omega | (simp only [List.length_set, List.length_append, List.length_cons, List.length_nil, List.length_replicate]; omega)) only [guardP_T, guardP_pos, iteN, rd_set, List.set_set, List.length_set, eta_fact, eta_rumor, eta_doubt, eta_item, eta_rec, eta_due, look, look0, rd_toNat, wrap64, Int.toNat_natCast, Nat.zero_add, List.take_length, List.drop_zero, and_self, setB_len, true_and, and_true]
           try dsimp only [go_sem, Nat.reduceAdd, Nat.reduceMul, Nat.reduceSub, Nat.reduceBEq, Nat.reduceLeDiff, Nat.reduceEqDiff, ↓dreduceIte, toG])
        | skip
      all_goals try first
        | omega
        | (simp; done)
        | (simp; omega)
      all_goals first
        | (rw [fourS]; rfl)
    · simp at h'

end Go.Proofs.Ytnghlmogcbmlfaa
