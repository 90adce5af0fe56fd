/- The small machine's reckonings over numbers, texts, bools and parts of structs tell what the model's operations tell. -/
import Derived.Test.YtnghlmogcbmlfaaAmE
import Derived.Laws.StructEq
import Derived.Laws.Slices
import Derived.Laws.Strings
import Derived.Laws.Strings2
namespace Go.Proofs.Ytnghlmogcbmlfaa
set_option linter.unusedVariables false
set_option linter.unusedSimpArgs false

section inv
variable {w : World} {L : List LB} {Z : Nat → Prop} {V : Value}

theorem RepV.int_inv {k : IntKind} {n : Int} (h : RepV w L Z (.int k n) V) : V = .int k n ∧ InK k n := by cases h; exact ⟨rfl, by assumption⟩
theorem RepV.bool_inv {b : Bool} (h : RepV w L Z (.bool b) V) : V = .bool b := by cases h; rfl
theorem RepV.str_inv {b : ByteArray} (h : RepV w L Z (.str b) V) : V = .string b ∧ b.size ≤ maxLen := by cases h; exact ⟨rfl, by assumption⟩
theorem RepV.err_inv {b : Bool} (h : RepV w L Z (.err b) V) : (b = false ∧ V = .nilIface) ∨ (b = true ∧ ∃ t x, V = .iface t x) := by
  cases h
  · exact .inl ⟨rfl, rfl⟩
  · exact .inr ⟨rfl, _, _, rfl⟩
theorem RepV.agg_inv {cs : List AV} (h : RepV w L Z (.agg cs) V) : ∃ Cs : Array Value, V = .agg Cs ∧ Cs.size = cs.length ∧ ∀ j, j < cs.length → RepV w L Z (nth cs j) (Cs.getD j Go.undef) := by
  cases h; exact ⟨_, rfl, by assumption, by assumption⟩
theorem RepV.tup_inv {cs : List AV} (h : RepV w L Z (.tup cs) V) : ∃ Cs : Array Value, V = .tuple Cs ∧ Cs.size = cs.length ∧ ∀ j, j < cs.length → RepV w L Z (nth cs j) (Cs.getD j Go.undef) := by
  cases h; exact ⟨_, rfl, by assumption, by assumption⟩
theorem RepV.fn_inv {f : FuncId} {cs : List AV} (h : RepV w L Z (.fn f cs) V) : ∃ Cs : Array Value, V = .func (.func f) #[] Cs ∧ Cs.size = cs.length ∧ ∀ j, j < cs.length → RepV w L Z (nth cs j) (Cs.getD j Go.undef) := by
  cases h; exact ⟨_, rfl, by assumption, by assumption⟩
theorem RepV.ip_inv {cs : List AV} {off : Nat} (h : RepV w L Z (.ip cs off) V) : ∃ (b o : Nat) (C : Nat → Value), V = .pointer (some ⟨b, o + off, none⟩) ∧ ¬ Z b ∧ b < w.heap.size ∧
    (∀ j, j < cs.length → w.cell? ⟨b, o + j, none⟩ = some (C j)) ∧ ∀ j, j < cs.length → RepV w L Z (nth cs j) (C j) := by
  cases h; exact ⟨_, _, _, rfl, by assumption, by assumption, by assumption, by assumption⟩
theorem RepV.nil_inv (h : RepV w L Z .nil V) : ∃ p, V = .slice p 0 0 := by cases h; exact ⟨_, rfl⟩
theorem RepV.sl_inv {k : Kd} {l : List (T k)} (h : RepV w L Z (.sl k l) V) : ∃ (p : Option Addr) (cap b off : Nat) (C : Nat → Value), V = .slice p l.length cap ∧ l.length ≤ cap ∧ l.length ≤ maxLen ∧
    (l ≠ [] → p = some ⟨b, off, none⟩ ∧ ¬ Z b) ∧ (∀ j, j < l.length * wid k → w.cell? ⟨b, off + j, none⟩ = some (C j)) ∧
    ∀ i x, l[i]? = some x → ∀ j, j < wid k → RepV w L Z (nth (enc k x) j) (C (i * wid k + j)) := by
  cases h; exact ⟨_, _, _, _, _, rfl, by assumption, by assumption, by assumption, by assumption, by assumption⟩
theorem RepV.ptr_inv {id off : Nat} (h : RepV w L Z (.ptr id off) V) : ∃ b, V = .pointer (some ⟨b, off, none⟩) ∧ (L[id]? = some (.cell b) ∨ L[id]? = some .dead) := by
  cases h; exact ⟨_, rfl, by assumption⟩
theorem RepV.rp_inv {id v i off : Nat} (h : RepV w L Z (.rp id v i off) V) : ∃ b n, V = .pointer (some ⟨b, i * n + off, none⟩) ∧ (L[id]? = some (.row (some b) v n) ∨ ∃ x, L[id]? = some x ∧ Gone x v) := by
  cases h; exact ⟨_, _, rfl, by assumption⟩
theorem RepV.ms_inv {id v lo len : Nat} (h : RepV w L Z (.ms id v lo len) V) :
    (∃ b n cap, V = .slice (some ⟨b, lo * n, none⟩) len cap ∧ (len ≤ cap ∧ cap ≤ maxLen ∧ (lo = 0 → 0 < cap)) ∧ ((L[id]? = some (.row (some b) v n) ∧ (lo + cap) * n ≤ szOf w b) ∨ ∃ x, L[id]? = some x ∧ Gone x v)) ∨
    (∃ n p, lo = 0 ∧ len = 0 ∧ V = .slice p 0 0 ∧ (L[id]? = some (.row none v n) ∨ ∃ x, L[id]? = some x ∧ Gone x v)) ∨
    (∃ b off n, (len = 0 ∧ 0 < lo) ∧ V = .slice (some ⟨b, off, none⟩) 0 0 ∧ (L[id]? = some (.row (some b) v n) ∨ ∃ x, L[id]? = some x ∧ Gone x v)) := by
  cases h with
  | ms _ _ _ _ cap b n h hc hl => exact .inl ⟨_, _, _, rfl, ⟨hc.1, hc.2, hl⟩, h⟩
  | ms0 _ _ n a h => exact .inr (.inl ⟨_, _, rfl, rfl, rfl, h⟩)
  | msE _ _ _ b off n h hl => exact .inr (.inr ⟨_, _, _, ⟨rfl, hl⟩, rfl, h⟩)

end inv

theorem kq_iff {k k' : IntKind} : kq k k' = true ↔ k = k' := by cases k <;> cases k' <;> simp [kq]

theorem shr_inK {k : IntKind} {a : Int} (n : Nat) (h : InK k a) : InK k (a.fdiv (2 ^ n)) := by
  have hp : (0 : Int) < 2 ^ n := Int.pow_pos (by omega)
  have e : a.fdiv (2 ^ n) = a / (2 ^ n) := Int.fdiv_eq_ediv_of_nonneg _ (Int.le_of_lt hp)
  rw [e]
  have hmin : k.min ≤ 0 := by cases k <;> decide
  have hmax : 0 ≤ k.max := by cases k <;> decide
  obtain ⟨h1, h2⟩ := h
  have h1p : (1 : Int) ≤ 2 ^ n := by omega
  by_cases ha : 0 ≤ a
  · refine ⟨Int.le_trans hmin (Int.ediv_nonneg ha (Int.le_of_lt hp)), Int.le_trans (Int.ediv_le_self _ ha) h2⟩
  · refine ⟨?_, ?_⟩
    · have : a ≤ a / 2 ^ n := by
        rw [Int.le_ediv_iff_mul_le hp]
        have := Int.mul_le_mul_of_nonpos_left (a := a) (b := 2 ^ n) (c := 1) (by omega) (by omega)
        omega
      omega
    · have : a / 2 ^ n ≤ 0 := Int.ediv_nonpos_of_nonpos_of_neg (by omega) (by omega)
      omega

theorem tmod_inK {k : IntKind} {a b : Int} (h : InK k a) : InK k (a.tmod b) := by
  obtain ⟨h1, h2⟩ := h
  have hmin : k.min ≤ 0 := by cases k <;> decide
  have hmax : 0 ≤ k.max := by cases k <;> decide
  have hn : (a.tmod b).natAbs ≤ a.natAbs := by
    rw [Int.natAbs_tmod]
    exact Nat.mod_le _ _
  by_cases ha : 0 ≤ a
  · have x1 := Int.tmod_nonneg b ha
    exact ⟨by omega, by omega⟩
  · have x1 : a.tmod b ≤ 0 := by
      have e : a.tmod b = -((-a).tmod b) := by rw [Int.neg_tmod, Int.neg_neg]
      have := Int.tmod_nonneg b (show 0 ≤ -a by omega)
      omega
    exact ⟨by omega, by omega⟩

section ops
variable {P : Program} {w0 : World} {F0 X0 : Nat → Prop} {s : St} {L : List LB} {a : Act} {w : World} {o : Oper} {Z : Nat → Prop}

theorem intA_run {op : BinOp} {k : IntKind} {x y : Int} {v : AV} {t : TypeId} (hx : InK k x) (h : intA op k x y = some v) (hns : op ≠ .shl ∧ op ≠ .shr) :
    ∃ V, (Go.binOp op t (.int k x) (.int k y)).run P w = .ok V w ∧ RepV w L Z v V := by
  cases op <;> simp only [intA, Option.some.injEq] at h
  case shl => exact absurd rfl hns.1
  case shr => exact absurd rfl hns.2
  case andNot => simp at h
  case add => subst h; exact ⟨_, by simp [Go.binOp, Op.intArith], .int _ _ (wrap_inK _ _)⟩
  case sub => subst h; exact ⟨_, by simp [Go.binOp, Op.intArith], .int _ _ (wrap_inK _ _)⟩
  case mul => subst h; exact ⟨_, by simp [Go.binOp, Op.intArith], .int _ _ (wrap_inK _ _)⟩
  case quo =>
    split at h
    · simp at h
    · rename_i hy
      simp only [Option.some.injEq] at h
      subst h
      exact ⟨_, by simp [Go.binOp, Op.intDiv, hy], .int _ _ (wrap_inK _ _)⟩
  case rem =>
    split at h
    · simp at h
    · rename_i hy
      simp only [Option.some.injEq] at h
      subst h
      exact ⟨_, by simp [Go.binOp, Op.intDiv, hy], .int _ _ (tmod_inK hx)⟩
  case and => subst h; exact ⟨_, by simp [Go.binOp, Op.intBits], .int _ _ (wrap_inK _ _)⟩
  case or => subst h; exact ⟨_, by simp [Go.binOp, Op.intBits], .int _ _ (wrap_inK _ _)⟩
  case xor => subst h; exact ⟨_, by simp [Go.binOp, Op.intBits], .int _ _ (wrap_inK _ _)⟩
  case eql => subst h; exact ⟨_, by simp [Go.binOp, Op.intCmp], .bool _⟩
  case neq => subst h; exact ⟨_, by simp [Go.binOp, Op.intCmp], .bool _⟩
  case lss => subst h; exact ⟨_, by simp [Go.binOp, Op.intCmp], .bool _⟩
  case leq => subst h; exact ⟨_, by simp [Go.binOp, Op.intCmp], .bool _⟩
  case gtr => subst h; exact ⟨_, by simp [Go.binOp, Op.intCmp], .bool _⟩
  case geq => subst h; exact ⟨_, by simp [Go.binOp, Op.intCmp], .bool _⟩

/-- Two operands by an operator: the values alone. -/
theorem binA_run {op : BinOp} {X Y : AV} {VX VY : Value} {v : AV} {t : TypeId} (hx : RepV w L Z X VX) (hy : RepV w L Z Y VY) (h : binA op X Y = some v) :
    ∃ V, (Go.binOp op t VX VY).run P w = .ok V w ∧ RepV w L Z v V := by
  cases X <;> simp only [binA] at h <;> try (simp at h; done)
  case int k x =>
    cases Y <;> simp only at h <;> try (simp at h; done)
    rename_i k' y
    obtain ⟨rfl, ix⟩ := hx.int_inv
    obtain ⟨rfl, iy⟩ := hy.int_inv
    by_cases hl : op = .shl
    · subst hl
      simp only at h
      split at h
      · simp at h
      · rename_i hn
        simp only [Option.some.injEq] at h
        subst h
        exact ⟨_, by simp [Go.binOp, Op.shift, hn], .int _ _ (wrap_inK _ _)⟩
    · by_cases hr : op = .shr
      · subst hr
        simp only at h
        split at h
        · simp at h
        · rename_i hn
          simp only [Option.some.injEq] at h
          subst h
          exact ⟨_, by simp [Go.binOp, Op.shift, hn], .int _ _ (shr_inK _ ix)⟩
      · have h' : (match kq k k' with | true => intA op k x y | false => none) = some v := by
          cases op <;> first | exact h | exact absurd rfl hl | exact absurd rfl hr
        cases hk : kq k k' with
        | false => simp [hk] at h'
        | true =>
          rw [hk] at h'
          obtain rfl := kq_iff.1 hk
          exact intA_run ix h' ⟨hl, hr⟩
  case str x =>
    cases Y <;> simp only at h <;> try (simp at h; done)
    rename_i y
    obtain ⟨rfl, sx⟩ := hx.str_inv
    obtain ⟨rfl, sy⟩ := hy.str_inv
    cases op <;> simp only [Option.some.injEq] at h <;> try (simp at h; done)
    case add =>
      split at h
      · rename_i hn
        simp only [Option.some.injEq] at h
        subst h
        refine ⟨_, ?_, .str _ (by rw [ByteArray.size_append]; unfold maxLen; omega)⟩
        have : ¬ (((x.size + y.size : Nat) : Int) > IntKind.i64.max) := by
          have : IntKind.i64.max = 9223372036854775807 := by decide
          omega
        simp only [Go.binOp, Op.stringOp]
        rw [if_neg this]
        rfl
      · simp at h
    case eql => subst h; exact ⟨_, by simp [Go.binOp, Op.stringOp], .bool _⟩
    case neq => subst h; exact ⟨_, by simp [Go.binOp, Op.stringOp], .bool _⟩
    case lss => subst h; exact ⟨_, by simp [Go.binOp, Op.stringOp], .bool _⟩

theorem eqGuard_plain {op : BinOp} {t : TypeId} {x y : Operand} {VX VY : Value} (hx : VX.oneCell' = true) (hn : VX = .nilIface → VY = .nilIface → ∃ v, y = .const v) :
    (eqGuard op t x y VX VY).run P w = .ok () w := by
  unfold eqGuard
  cases op <;> first
    | rfl
    | (cases VX <;> first
        | rfl
        | (simp [Value.oneCell'] at hx; done)
        | (cases VY <;> first
            | rfl
            | (obtain ⟨v, rfl⟩ := hn rfl rfl; simp)))

theorem tells_bin {op : BinOp} {t u : TypeId} {x y : Operand} {X Y : AV} {v : AV} (h : o.op = .binOp op t x y u) (hx : RepV w L Z X (a.eval x)) (hy : RepV w L Z Y (a.eval y)) (hb : binA op X Y = some v) :
    ∃ V, Tells P o a w V ∧ RepV w L Z v V := by
  obtain ⟨V, h1, h2⟩ := binA_run (P := P) (t := t) hx hy hb
  refine ⟨V, ?_, h2⟩
  have hg : (eqGuard op t x y (a.eval x) (a.eval y)).run P w = .ok () w := by
    cases X <;> simp only [binA] at hb <;> try (simp at hb; done)
    · obtain ⟨e, _⟩ := hx.int_inv
      exact eqGuard_plain (by rw [e]; rfl) (fun h => by rw [e] at h; cases h)
    · obtain ⟨e, _⟩ := hx.str_inv
      exact eqGuard_plain (by rw [e]; rfl) (fun h => by rw [e] at h; cases h)
  simp only [Tells, execOp, h, Sem.run_bind, hg, Result.andThen_ok, h1, Sem.run_pure]

theorem tells_eqb {op : BinOp} {t u : TypeId} {x y : Operand} {b c : Bool} (h : o.op = .binOp op t x y u) (ht : P.underlying t = some .bool) (hx : a.eval x = .bool b) (hy : a.eval y = .bool c)
    (ho : op = .eql ∨ op = .neq) : Tells P o a w (.bool (match op with | .neq => !(b == c) | _ => b == c)) := by
  have hq : (Op.equal t (.bool b) (.bool c)).run P w = .ok (b == c) w := run_equalIn_bool' w 9999 t b c ht
  have hg : (eqGuard op t x y (.bool b) (.bool c)).run P w = .ok () w := eqGuard_plain rfl (fun h => by cases h)
  rcases ho with rfl | rfl <;> simp [Tells, execOp, h, hx, hy, hg, Go.binOp, hq]

theorem equalIn_nil (d : Nat) {t : TypeId} {ms : Array (String × TypeId)} (ht : P.underlying t = some (.interface ms)) : (Op.equalIn (d + 1) t .nilIface .nilIface).run P w = .ok true w := by
  simp [Op.equalIn, run_underlying ht]

theorem equalIn_held (d : Nat) {t : TypeId} {ms : Array (String × TypeId)} {u : TypeId} {z : Value} (ht : P.underlying t = some (.interface ms)) : (Op.equalIn (d + 1) t (.iface u z) .nilIface).run P w = .ok false w := by
  simp [Op.equalIn, run_underlying ht]

theorem tells_eqe {op : BinOp} {t u : TypeId} {x : Operand} {ms : Array (String × TypeId)} {b : Bool} (h : o.op = .binOp op t x (.const .nilIface) u) (ht : P.underlying t = some (.interface ms)) (hx : RepV w L Z (.err b) (a.eval x))
    (ho : op = .eql ∨ op = .neq) : Tells P o a w (.bool (match op with | .neq => b | _ => !b)) := by
  have hg : (eqGuard op t x (.const .nilIface) (a.eval x) .nilIface).run P w = .ok () w := eqGuard_plain (oneCell_of hx rfl) (fun _ _ => ⟨_, rfl⟩)
  have ec : a.eval (.const .nilIface) = .nilIface := rfl
  have hq : (Op.equal t (a.eval x) .nilIface).run P w = .ok (!b) w := by
    rcases hx.err_inv with ⟨rfl, e⟩ | ⟨rfl, u, z, e⟩
    · rw [e]; exact equalIn_nil 9999 ht
    · rw [e]; exact equalIn_held 9999 ht
  rcases hx.err_inv with ⟨rfl, e⟩ | ⟨rfl, u, z, e⟩ <;> rw [e] at hg hq <;> rcases ho with rfl | rfl <;> simp [Tells, execOp, h, e, ec, hg, Go.binOp, hq]

theorem tells_not {t : TypeId} {x : Operand} {b : Bool} (h : o.op = .unOp .not t x) (hx : a.eval x = .bool b) : Tells P o a w (.bool (!b)) := by
  simp [Tells, execOp, h, hx, Op.unary]

theorem tells_neg {t : TypeId} {x : Operand} {k : IntKind} {n : Int} (h : o.op = .unOp .neg t x) (hx : a.eval x = .int k n) : Tells P o a w (.int k (k.wrap (0 - n))) := by
  simp [Tells, execOp, h, hx, Op.unary, Op.intArith]

theorem tells_xor {t : TypeId} {x : Operand} {k : IntKind} {n : Int} (h : o.op = .unOp .xor t x) (hx : a.eval x = .int k n) :
    Tells P o a w (.int k (k.wrap ((BitVec.ofInt k.bits (if k.signed then -1 else k.max) ^^^ BitVec.ofInt k.bits n).toNat : Int))) := by
  simp [Tells, execOp, h, hx, Op.unary, Op.intBits]

theorem tells_conv {src dst : TypeId} {x : Operand} {k j : IntKind} {n : Int} {ks : IntKind} (h : o.op = .convert src dst x) (hs : P.underlying src = some (.int ks)) (hd : P.underlying dst = some (.int k)) (hx : a.eval x = .int j n) :
    Tells P o a w (.int k (k.wrap n)) := by
  simp [Tells, execOp, h, hx, Go.convert, run_underlying hs, run_underlying hd, Conv.intToInt]

theorem tells_conv_str {src dst : TypeId} {x : Operand} {b : ByteArray} (h : o.op = .convert src dst x) (hs : P.underlying src = some .string) (hd : P.underlying dst = some .string) (hx : a.eval x = .string b) :
    Tells P o a w (.string b) := by
  simp [Tells, execOp, h, hx, Go.convert, run_underlying hs, run_underlying hd]

theorem tells_extract {i : Nat} {x : Operand} {Vs : Array Value} {V : Value} (h : o.op = .extract x i) (hx : a.eval x = .tuple Vs) (hV : Vs[i]? = some V) : Tells P o a w V := by
  simp [Tells, execOp, h, hx, Instr.extract, hV]

theorem tells_makeFunc {f : FuncId} {caps : Array Operand} (h : o.op = .makeFunc (.func f) #[] caps) : Tells P o a w (.func (.func f) #[] (caps.map a.eval)) := by
  simp [Tells, execOp, h, Instr.makeFunc]

theorem tells_nilCheck {x : Operand} {p : Addr} (h : o.op = .nilCheck x) (hx : a.eval x = .pointer (some p)) : Tells P o a w (.pointer (some p)) := by
  simp [Tells, execOp, h, hx]

end ops

end Go.Proofs.Ytnghlmogcbmlfaa
