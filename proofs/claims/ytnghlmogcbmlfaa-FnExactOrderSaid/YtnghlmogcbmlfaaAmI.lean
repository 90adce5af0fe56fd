/- Arrays, parts of structs, lengths, texts, comparing structs: the small machine tells what the model's operations tell. -/
import Derived.Test.YtnghlmogcbmlfaaAmH
namespace Go.Proofs.Ytnghlmogcbmlfaa
set_option linter.unusedVariables false
set_option linter.unusedSimpArgs false

section ops
variable {P : Program} {kt : KT} {w0 : World} {F0 X0 : Nat → Prop} {s : St} {L : List LB} {a : Act} {w : World} {o : Oper} {Z : Nat → Prop}

theorem tells_iaa {t e : TypeId} {x i : Operand} {n len j ki : Nat} {X v : AV} {K : IntKind} {I : Int} (h : o.op = .indexAddr t x i) (ht : P.underlying t = some (.array len e)) (hn : sizeT P e = some n)
    (hx : RepV w L Z X (a.eval x)) (hi : a.eval i = .int K I) (h0 : 0 ≤ I) (h1 : I < len)
    (hv : (match X with | .ptr id o => some (AV.ptr id (o + I.toNat * n)) | .ip cs o => some (.ip cs (o + I.toNat * n)) | _ => none) = some v) :
    ∃ V, Tells P o a w V ∧ RepV w L Z v V := by
  have fin : ∀ (b ob : Nat), a.eval x = .pointer (some ⟨b, ob, none⟩) → Tells P o a w (.pointer (some ⟨b, ob + I.toNat * n, none⟩)) := by
    intro b ob hp
    simp [Tells, execOp, h, hp, hi, Instr.indexAt, asIntOf, run_underlying ht, Instr.sureAddr, h0, h1, run_sizeT hn, Addr.add_lit]
  cases X <;> simp only at hv <;> try (simp at hv; done)
  case ip cs off =>
    simp only [Option.some.injEq] at hv
    subst hv
    obtain ⟨b, ob, C, ex, hz, hb, hC, hr⟩ := hx.ip_inv
    refine ⟨_, fin _ _ ex, ?_⟩
    rw [Nat.add_assoc]
    exact .ip cs _ b ob C hz hC hr hb
  case ptr id off =>
    simp only [Option.some.injEq] at hv
    subst hv
    obtain ⟨b, ex, hL⟩ := hx.ptr_inv
    exact ⟨_, fin _ _ ex, .ptr id _ b hL⟩

/-- A part of cells that are at hand. -/
theorem run_part {t : TypeId} {g : Bool} {n off : Nat} {cs : List AV} {Cs : Array Value} {v : AV} (hg : aggT P t = some g) (hn : sizeT P t = some n) (hs : Cs.size = cs.length)
    (hr : ∀ j, j < cs.length → RepV w L Z (nth cs j) (Cs.getD j Go.undef)) (h : mkV g n (cut off n cs) = some v) :
    ∃ V, (part t Cs off).run P w = .ok V w ∧ RepV w L Z v V := by
  simp only [part, Sem.run_bind, run_aggT hg, Result.andThen_ok]
  cases g with
  | true =>
    simp only [mkV] at h
    cases he : eqN (cut off n cs).length n with
    | false => simp [he] at h
    | true =>
      simp only [he, Option.some.injEq] at h
      subst h
      have hl : (cut off n cs).length = n := eqN_iff.1 he
      have hoff : off + n ≤ cs.length ∨ n = 0 := by
        cases n with
        | zero => exact .inr rfl
        | succ n =>
          left
          have := (cut_some (off := off) (n := n + 1) (cs := cs) (j := n) (by rw [hl]; omega)).2
          omega
      refine ⟨.agg (Cs.extract off (off + n)), by simp [run_sizeT hn], .agg _ _ (by simp [hl]; omega) (fun j hj => ?_)⟩
      obtain ⟨h1, h2⟩ := cut_some hj
      rw [hl] at hj
      rw [h1]
      have e : (Cs.extract off (off + n)).getD j Go.undef = Cs.getD (off + j) Go.undef := by
        have hx : off + j < Cs.size := by omega
        rw [getD_of (x := Cs.getD (off + j) Go.undef)]
        rw [Array.getElem?_extract, if_pos (by omega), Array.getD_eq_getD_getElem?, Array.getElem?_eq_getElem hx]
        rfl
      rw [e]
      exact hr _ h2
  | false =>
    simp only [mkV] at h
    cases hc : cut off n cs with
    | nil => simp [hc] at h
    | cons x r => cases r with
      | cons y q => simp [hc] at h
      | nil =>
        simp only [hc, Option.some.injEq] at h
        subst h
        obtain ⟨h1, h2⟩ := cut_some (off := off) (n := n) (cs := cs) (j := 0) (by rw [hc]; simp)
        rw [hc] at h1
        have hx : x = nth cs off := by simpa [nth] using h1
        have hlt : off < Cs.size := by omega
        refine ⟨Cs.getD off Go.undef, ?_, by rw [hx]; exact hr off (by simpa using h2)⟩
        simp [Array.getElem?_eq_getElem hlt, Array.getD_eq_getD_getElem?]

theorem tells_fd {t : TypeId} {x : Operand} {f n : Nat} {fs : Array Field} {fd : Field} {g : Bool} {cs : List AV} {v : AV} (h : o.op = .field t x f) (ht : P.underlying t = some (.struct fs)) (hf : fs[f]? = some fd)
    (hg : aggT P fd.type = some g) (hn : sizeT P fd.type = some n) (hx : RepV w L Z (.agg cs) (a.eval x)) (hv : mkV g n (cut fd.offset n cs) = some v) : ∃ V, Tells P o a w V ∧ RepV w L Z v V := by
  obtain ⟨Cs, ex, hs, hr⟩ := hx.agg_inv
  obtain ⟨V, h1, h2⟩ := run_part (P := P) hg hn hs hr hv
  exact ⟨V, by simp [Tells, execOp, h, ex, Instr.field, run_underlying ht, hf, asAgg, h1], h2⟩

theorem tells_ix {t e : TypeId} {x i : Operand} {n len : Nat} {g : Bool} {cs : List AV} {v : AV} {K : IntKind} {I : Int} (h : o.op = .index t x i) (ht : P.underlying t = some (.array len e))
    (hg : aggT P e = some g) (hn : sizeT P e = some n) (hx : RepV w L Z (.agg cs) (a.eval x)) (hi : a.eval i = .int K I) (h0 : 0 ≤ I) (h1 : I < len) (hv : mkV g n (cut (I.toNat * n) n cs) = some v) :
    ∃ V, Tells P o a w V ∧ RepV w L Z v V := by
  obtain ⟨Cs, ex, hs, hr⟩ := hx.agg_inv
  obtain ⟨V, h1', h2⟩ := run_part (P := P) hg hn hs hr hv
  exact ⟨V, by simp [Tells, execOp, h, ex, hi, Instr.index, asIntOf, run_underlying ht, h0, h1, run_sizeT hn, h1'], h2⟩

theorem tells_ixs {t : TypeId} {x i : Operand} {b : ByteArray} {K : IntKind} {I : Int} {c : UInt8} (h : o.op = .index t x i) (ht : P.underlying t = some .string)
    (hx : a.eval x = .string b) (hi : a.eval i = .int K I) (h0 : 0 ≤ I) (hc : (bytesOf b)[I.toNat]? = some c) : Tells P o a w (.int .u8 c.toNat) := by
  have hb : b[I.toNat]? = some c := by
    unfold bytesOf at hc
    rw [Array.getElem?_toList] at hc
    exact hc
  simp [Tells, execOp, h, hx, hi, Instr.index, asIntOf, run_underlying ht, h0, hb]

theorem tells_lens {c : Call} {x : Operand} {t : TypeId} {b : ByteArray} (h : o.op = .call c) (hc : c.callee = .builtin .len) (ha : c.args = #[x]) (hat : c.argTypes = #[t])
    (ht : P.underlying t = some .string) (hx : RepV w L Z (.str b) (a.eval x)) : ∃ V, Tells P o a w V ∧ RepV w L Z (.int .i64 b.size) V := by
  obtain ⟨ex, hb⟩ := hx.str_inv
  refine ⟨.int .i64 b.size, by simp [Tells, execOp, h, resolve, hc, ha, hat, ex, invoke, builtin, Builtin.len_, run_underlying ht, goInt], .int _ _ ?_⟩
  unfold maxLen at hb
  have e1 : IntKind.i64.min = -9223372036854775808 := by decide
  have e2 : IntKind.i64.max = 9223372036854775807 := by decide
  exact ⟨by omega, by omega⟩

theorem tells_len (hs : Sim w0 F0 X0 s L a w) {c : Call} {x : Operand} {t e : TypeId} {X v : AV} (h : o.op = .call c) (hc : c.callee = .builtin .len) (ha : c.args = #[x]) (hat : c.argTypes = #[t])
    (ht : P.underlying t = some (.slice e)) (hx : RepV w L (ZZ X0 L) X (a.eval x))
    (hv : lenA s.m X = some v) : ∃ V, Tells P o a w V ∧ RepV w L (ZZ X0 L) v V := by
  have hsl : True → ∃ e, P.underlying t = some (.slice e) := fun _ => ⟨e, ht⟩
  have fin : ∀ (e : TypeId) (p : Option Addr) (n cap : Nat), P.underlying t = some (.slice e) → a.eval x = .slice p n cap → Tells P o a w (.int .i64 n) := by
    intro e p n cap he hp
    simp [Tells, execOp, h, resolve, hc, ha, hat, hp, invoke, builtin, Builtin.len_, run_underlying he, goInt]
  have inr : ∀ n : Nat, n ≤ maxLen → InK .i64 (n : Int) := by
    intro n hn
    unfold maxLen at hn
    have e1 : IntKind.i64.min = -9223372036854775808 := by decide
    have e2 : IntKind.i64.max = 9223372036854775807 := by decide
    exact ⟨by omega, by omega⟩
  cases X <;> simp only [lenA] at hv <;> try (simp at hv; done)
  case nil =>
    simp only [Option.some.injEq] at hv
    subst hv
    obtain ⟨e, he⟩ := hsl trivial
    obtain ⟨p, ex⟩ := hx.nil_inv
    exact ⟨_, fin e p 0 0 he ex, .int _ _ (inr 0 (Nat.zero_le _))⟩
  case sl k l =>
    simp only [Option.some.injEq] at hv
    subst hv
    obtain ⟨e, he⟩ := hsl trivial
    obtain ⟨p, cap, b, off, C, ex, h1, h2, _⟩ := hx.sl_inv
    exact ⟨_, fin e p _ _ he ex, .int _ _ (inr _ h2)⟩
  case ms id v0 lo len =>
    obtain ⟨e, he⟩ := hsl trivial
    cases hm : bnth s.m id with
    | dead => simp [hm] at hv
    | cells cs => simp [hm] at hv
    | row v' k l =>
      simp only [hm] at hv
      cases hee : eqN v0 v' with
      | false => simp [hee] at hv
      | true =>
        obtain rfl := eqN_iff.1 hee
        simp only [hee] at hv
        simp only [Option.some.injEq] at hv
        subst hv
        have hin : InK .i64 (len : Int) := by
          rcases hx.ms_inv with ⟨b, n', cap, ex, hcap, hL⟩ | ⟨n', A, rfl, rfl, ex, hL⟩ | ⟨b, off, n', ⟨rfl, hlo⟩, ex, hL⟩
          · exact inr _ (by omega)
          · exact inr 0 (Nat.zero_le _)
          · exact inr 0 (Nat.zero_le _)
        rcases hx.ms_inv with ⟨b, n', cap, ex, hcap, hL⟩ | ⟨n', A, rfl, rfl, ex, hL⟩ | ⟨b, off, n', ⟨rfl, hlo⟩, ex, hL⟩
        · exact ⟨_, fin e _ _ _ he ex, .int _ _ hin⟩
        · exact ⟨_, fin e _ _ _ he ex, .int _ _ hin⟩
        · exact ⟨_, fin e _ _ _ he ex, .int _ _ hin⟩

theorem tells_sl0 {t e : TypeId} {x : Operand} {lo : Option Operand} {k : Kd} {X : AV} (h : o.op = .slice t x lo (some (.const (.int .i64 0))) (some (.const (.int .i64 0)))) (hlo : lo = none ∨ lo = some (.const (.int .i64 0)))
    (ht : P.underlying t = some (.slice e)) (hk : kdT P kt e = some k) (hx : RepV w L Z X (a.eval x)) (hX : X = .nil ∨ (∃ k l, X = .sl k l) ∨ ∃ i v lo n, X = .ms i v lo n) :
    ∃ V, Tells P o a w V ∧ RepV w L Z .nil V := by
  have he : P.elem t = e := by simp [Program.elem, ht]
  have ht' : P.underlying t = some (.slice (P.elem t)) := by rw [he]; exact ht
  have sz := kdT_size (w := w) hk
  have ec : a.eval (.const (.int .i64 0)) = .int .i64 0 := rfl
  have fin : ∀ (p : Option Addr) (n cap : Nat), a.eval x = .slice p n cap → ∃ q, Tells P o a w (.slice q 0 0) := by
    intro p n cap hp
    rcases hlo with rfl | rfl
    · refine ⟨p, ?_⟩
      have := run_slice_hm (P := P) w t p n cap ht' .i64 .i64 0 0 (by omega) (by omega) (by omega)
      rw [he, sz] at this
      have r := run_sliceAt_slice (P := P) w t (.slice p n cap) none (some (.int .i64 0)) (some (.int .i64 0)) ht'
      rw [this] at r
      simp [Tells, execOp, h, hp, ec, r, sliced]
    · refine ⟨p, ?_⟩
      have := run_slice_lhm (P := P) w t p n cap ht' .i64 .i64 .i64 0 0 0 (by omega) (by omega) (by omega) (by omega)
      rw [he, sz] at this
      have r := run_sliceAt_slice (P := P) w t (.slice p n cap) (some (.int .i64 0)) (some (.int .i64 0)) (some (.int .i64 0)) ht'
      rw [this] at r
      simp [Tells, execOp, h, hp, ec, r, sliced]
  have hsl : ∃ p n cap, a.eval x = .slice p n cap := by
    rcases hX with rfl | ⟨k, l, rfl⟩ | ⟨i, v, lo, n, rfl⟩
    · obtain ⟨p, e⟩ := hx.nil_inv; exact ⟨_, _, _, e⟩
    · obtain ⟨p, cap, b, off, C, e, _⟩ := hx.sl_inv; exact ⟨_, _, _, e⟩
    · rcases hx.ms_inv with ⟨b, n', cap, e, _⟩ | ⟨n', A, _, _, e, _⟩ | ⟨b, off, n', _, e, _⟩ <;> exact ⟨_, _, _, e⟩
  obtain ⟨p, n, cap, e⟩ := hsl
  obtain ⟨q, hq⟩ := fin p n cap e
  exact ⟨_, hq, .nil q⟩

theorem tells_sls {t : TypeId} {x : Operand} {lo hi : Option Operand} {b : ByteArray} {p q : Int} {Y1 Y2 : Option AV} (h : o.op = .slice t x lo hi none) (ht : P.underlying t = some .string) (hx : a.eval x = .string b)
    (hlo : (lo.map a.eval = none ∧ p = 0) ∨ ∃ k, lo.map a.eval = some (.int k p)) (hhi : (hi.map a.eval = none ∧ q = b.size) ∨ ∃ k, hi.map a.eval = some (.int k q)) (h0 : 0 ≤ p) (h1 : p ≤ q) (h2 : q ≤ b.size) :
    Tells P o a w (.string (b.extract p.toNat q.toNat)) := by
  have key : (Instr.sliceAt t (.string b) (lo.map a.eval) (hi.map a.eval) none).run P w = .ok (.string (b.extract p.toNat q.toNat)) w := by
    rw [run_sliceAt_string w t _ _ _ none ht]
    have eq : (q.toNat : Int) = q := Int.toNat_of_nonneg (by omega)
    rcases hlo with ⟨e1, rfl⟩ | ⟨k, e1⟩ <;> rcases hhi with ⟨e2, rfl⟩ | ⟨k', e2⟩ <;> rw [e1, e2]
    · simpa using run_slice_string_all (P := P) w t b ht
    · simpa using run_slice_string_h (P := P) w t b ht k' q (by omega) h2
    · simpa using run_slice_string_l (P := P) w t b ht k p h0 (by omega)
    · simp [Instr.slice, run_underlying ht, Instr.sliceBounds, Instr.sliceBound, asIntOf, h0, h1, h2, eq, (by omega : 0 ≤ q)]
  simp [Tells, execOp, h, hx, key]

end ops

end Go.Proofs.Ytnghlmogcbmlfaa
