/- Slices written out, made, turned into texts and back; structs put together: the small machine and the model do alike. -/
import Derived.Test.YtnghlmogcbmlfaaAmL
namespace Go.Proofs.Ytnghlmogcbmlfaa
set_option linter.unusedVariables false
set_option linter.unusedSimpArgs false

theorem fold_set (off : Nat) : ∀ (xs : List Value) (i0 : Nat) (C : Array Value), off + i0 + xs.length ≤ C.size →
    ((xs.zipIdx i0).foldl (fun cs (p : Value × Nat) => cs.setIfInBounds (off + p.2) p.1) C).size = C.size ∧
    ∀ j, ((xs.zipIdx i0).foldl (fun cs (p : Value × Nat) => cs.setIfInBounds (off + p.2) p.1) C).getD j Go.undef = if off + i0 ≤ j ∧ j < off + i0 + xs.length then xs[j - (off + i0)]?.getD Go.undef else C.getD j Go.undef := by
  intro xs
  induction xs with
  | nil =>
    intro i0 C h
    exact ⟨rfl, fun j => by rw [if_neg (by simp)]; rfl⟩
  | cons x r ih =>
    intro i0 C h
    simp only [List.length_cons] at h
    obtain ⟨h1, h2⟩ := ih (i0 + 1) (C.setIfInBounds (off + i0) x) (by simp; omega)
    simp only [List.zipIdx_cons, List.foldl_cons]
    refine ⟨by rw [h1]; simp, fun j => ?_⟩
    rw [h2 j]
    by_cases hj : off + (i0 + 1) ≤ j ∧ j < off + (i0 + 1) + r.length
    · rw [if_pos hj, if_pos ⟨by omega, by simp; omega⟩]
      rw [show j - (off + i0) = (j - (off + (i0 + 1))) + 1 by omega]
      simp
    · rw [if_neg hj]
      by_cases hjo : j = off + i0
      · subst hjo
        rw [if_pos ⟨by omega, by simp⟩]
        have hlt : off + i0 < C.size := by omega
        simp [Array.getD_eq_getD_getElem?, hlt]
      · rw [if_neg (by simp only [List.length_cons]; omega)]
        simp [Array.getD_eq_getD_getElem?, Array.getElem?_setIfInBounds, Ne.symm hjo]

theorem fold_cells (off : Nat) (x C : Array Value) (h : off + x.size ≤ C.size) :
    (x.zipIdx.foldl (fun cs (p : Value × Nat) => cs.setIfInBounds (off + p.2) p.1) C).size = C.size ∧
    ∀ j, (x.zipIdx.foldl (fun cs (p : Value × Nat) => cs.setIfInBounds (off + p.2) p.1) C).getD j Go.undef = if off ≤ j ∧ j < off + x.size then x.getD (j - off) Go.undef else C.getD j Go.undef := by
  rw [← Array.foldl_toList, Array.toList_zipIdx]
  have := fold_set off x.toList 0 C (by simpa using h)
  simp only [Nat.add_zero, Array.length_toList] at this
  refine ⟨this.1, fun j => ?_⟩
  rw [this.2 j]
  simp [Array.getD_eq_getD_getElem?]

theorem fill_seq (n : Nat) : ∀ (Vs : List Value) (i0 : Nat) (C : Array Value), (∀ V ∈ Vs, V.cells.size = n) → (i0 + Vs.length) * n ≤ C.size →
    ∃ C', Instr.fill (fun i => some (i * n, n)) C ((Vs.zipIdx i0).map fun p => (p.2, p.1)) = some C' ∧ C'.size = C.size ∧ (∀ j, j < i0 * n → C'.getD j Go.undef = C.getD j Go.undef) ∧
      ∀ i V, Vs[i]? = some V → ∀ j, j < n → C'.getD ((i0 + i) * n + j) Go.undef = V.cells.getD j Go.undef := by
  intro Vs
  induction Vs with
  | nil => intro i0 C h hl; exact ⟨C, rfl, rfl, fun j _ => rfl, fun i V hV => by simp at hV⟩
  | cons V Vs ih =>
    intro i0 C h hl
    have hV : V.cells.size = n := h V (by simp)
    have hle : i0 * n + n ≤ C.size := by
      have : (i0 + 1) * n ≤ (i0 + (V :: Vs).length) * n := Nat.mul_le_mul_right _ (by simp)
      rw [Nat.add_mul, Nat.one_mul] at this
      omega
    obtain ⟨f1, f2⟩ := fold_cells (i0 * n) V.cells C (by omega)
    obtain ⟨C', h1, h2, h3, h4⟩ := ih (i0 + 1) (V.cells.zipIdx.foldl (fun cs (p : Value × Nat) => cs.setIfInBounds (i0 * n + p.2) p.1) C) (fun U hU => h U (by simp [hU])) (by
      rw [f1]
      have e : i0 + 1 + Vs.length = i0 + (V :: Vs).length := by simp; omega
      rw [e]
      exact hl)
    refine ⟨C', ?_, by rw [h2, f1], fun j hj => ?_, fun i U hU j hj => ?_⟩
    · simp only [List.zipIdx_cons, List.map_cons, Instr.fill]
      rw [if_neg (by simp; omega)]
      exact h1
    · rw [h3 j (by rw [Nat.add_mul]; omega), f2 j, if_neg (by omega)]
    · cases i with
      | zero =>
        simp only [List.getElem?_cons_zero, Option.some.injEq] at hU
        subst hU
        rw [Nat.add_zero, h3 _ (by rw [Nat.add_mul]; omega), f2, if_pos ⟨by omega, by omega⟩]
        congr 1
        omega
      | succ i =>
        have := h4 i U (by simpa using hU) j hj
        rw [show i0 + (i + 1) = i0 + 1 + i by omega]
        exact this

section ops
variable {P : Program} {kt : KT} {w0 : World} {F0 X0 : Nat → Prop} {m : List Blk} {L : List LB} {a : Act} {w : World} {o : Oper} {Z : Nat → Prop}

theorem isMany_eq {ps : Array (Nat × Operand)} (h : isMany ps = true) (f : Operand → Value) : (ps.map fun p => (p.1, f p.2)).toList = ((ps.toList.map fun p => f p.2).zipIdx 0).map fun p => (p.2, p.1) := by
  unfold isMany at h
  apply List.ext_getElem?
  intro i
  simp only [Array.toList_map, List.getElem?_map, List.getElem?_zipIdx, Nat.zero_add]
  cases hi : ps.toList[i]? with
  | none => simp
  | some p =>
    have hmem : (p, i) ∈ ps.toList.zipIdx := by
      rw [List.mem_zipIdx_iff_getElem?]
      simpa using hi
    have := List.all_eq_true.1 h (p, i) hmem
    simp only [beq_iff_eq] at this
    simp [this]

theorem tells_slit {t e : TypeId} {k : Kd} {n : Nat} {ps : Array (Nat × Operand)} (h : o.op = .buildSlice t n ps) (ht : P.underlying t = some (.slice e)) (hk : kdT P kt e = some k) (hm : isMany ps = true) (hn : ps.size = n) (hb : n ≤ 4096)
    (hsz : ∀ p ∈ ps.toList, (a.eval p.2).cells.size = wid k) :
    ∃ C : Array Value, Does1 P o a w (.slice (some ⟨w.heap.size, 0, none⟩) n n) (w.alloc (.cells C e)) ∧ C.size = n * wid k ∧
      ∀ i p, ps.toList[i]? = some p → ∀ j, j < wid k → C.getD (i * wid k + j) Go.undef = (a.eval p.2).cells.getD j Go.undef := by
  obtain ⟨i, z, hi, hs, hby, hz, hzs, _⟩ := kdT_some hk
  have hlim : ¬ (n * wid k > 2 ^ 24) := by
    have : wid k ≤ 14 := by cases k <;> decide
    have : n * wid k ≤ 4096 * 14 := Nat.mul_le_mul hb this
    omega
  have key : ∀ Z0 : Array Value, Z0.size = n * wid k → ∃ C', Instr.fill (fun i => some (i * wid k, wid k)) Z0 ((ps.map fun p => (p.1, a.eval p.2)).toList) = some C' ∧ C'.size = n * wid k ∧
      ∀ i p, ps.toList[i]? = some p → ∀ j, j < wid k → C'.getD (i * wid k + j) Go.undef = (a.eval p.2).cells.getD j Go.undef := by
    intro Z0 hZ
    rw [isMany_eq hm a.eval]
    obtain ⟨C', h1, h2, _, h4⟩ := fill_seq (wid k) (ps.toList.map fun p => a.eval p.2) 0 Z0 (fun V hV => by
      obtain ⟨p, hp, rfl⟩ := List.mem_map.1 hV
      exact hsz p hp) (by simp [hn, hZ])
    refine ⟨C', h1, by omega, fun i p hp j hj => ?_⟩
    have := h4 i (a.eval p.2) (by simp [hp]) j hj
    simpa using this
  by_cases h0 : n * wid k = 0
  · obtain ⟨C', h1, h2, h3⟩ := key ((Array.range (n * wid k)).map fun x => (#[] : Array Value)[x % (#[] : Array Value).size]!) (by simp)
    refine ⟨C', .inl ?_, h2, h3⟩
    simp only [execOp, h, Instr.buildSlice, Sem.run_bind, run_underlying ht, Result.andThen_ok, kdT_size hk, if_neg hlim, if_pos h0, Sem.run_pure, h1, newRow, run_newObj]
    simp
  · obtain ⟨C', h1, h2, h3⟩ := key ((Array.range (n * wid k)).map fun x => z.cells[x % z.cells.size]!) (by simp)
    refine ⟨C', .inl ?_, h2, h3⟩
    have hzv : (zeroValue e).run P w = .ok z w := by simp [zeroValue, typeInfo, hi, hz]
    simp only [execOp, h, Instr.buildSlice, Sem.run_bind, run_underlying ht, Result.andThen_ok, kdT_size hk, if_neg hlim, if_neg h0, hzv, Sem.run_pure, h1, newRow, run_newObj]
    simp

theorem tells_mk {t e : TypeId} {x y : Operand} {k : Kd} {K1 K2 : IntKind} {l c : Int} {z : Value} {i : TypeInfo} (h : o.op = .makeSlice t x y) (ht : P.underlying t = some (.slice e)) (hi : P.info? e = some i) (hz : i.zero = some z) (hby : i.bytes ≤ 128)
    (hx : a.eval x = .int K1 l) (hy : a.eval y = .int K2 c) (h0 : 0 ≤ l) (h1 : l ≤ c) (h2 : c ≤ (most : Int)) :
    Does1 P o a w (.slice (some ⟨w.heap.size, 0, none⟩) l.toNat c.toNat) (w.alloc (.cells (madeCells z.cells (c.toNat * i.size)) e)) := by
  have hm : (most : Int) = 1099511627776 := rfl
  have hb : (i.bytes : Int) * c ≤ 281474976710656 := by
    have h3 : (i.bytes : Int) * c ≤ 128 * c := Int.mul_le_mul_of_nonneg_right (by omega) (by omega)
    omega
  have := run_make (P := P) w t e i z ht hi hz K1 K2 l c h0 h1 hb (by omega)
  left
  simp [execOp, h, hx, hy, this]

theorem tells_s2b {src dst e : TypeId} {x : Operand} {b : ByteArray} (h : o.op = .convert src dst x) (hs : P.underlying src = some .string) (hd : P.underlying dst = some (.slice e)) (he : P.underlying e = some (.int .u8)) (hx : a.eval x = .string b) :
    Does1 P o a w (.slice (some ⟨w.heap.size, 0, none⟩) b.size (grownCap w b.size 0 e))
      (w.drew.alloc (.cells (bytesRow b (grownCap w b.size 0 e)) e ((bytesRow b (grownCap w b.size 0 e)).size, (bytesRow b (grownCap w b.size 0 e)).size + 1))) := by
  have := run_bytes_of_string (P := P) w src dst e b hs hd he
  left
  simp [execOp, h, hx, this]

theorem tells_b2s {src dst e : TypeId} {x : Operand} {l : List UInt8} {V : Value} {p : Option Addr} {cap b off : Nat} {C : Nat → Value} (h : o.op = .convert src dst x) (hs : P.underlying src = some (.slice e)) (he : P.underlying e = some (.int .u8)) (hd : P.underlying dst = some .string)
    (hr : Reads w L Z .u8 l (a.eval x) p cap b off C) : Tells P o a w (.string ⟨l.toArray⟩) := by
  have key : (Go.convert src dst (a.eval x)).run P w = .ok (.string ⟨l.toArray⟩) w := by
    rw [hr.val]
    cases p with
    | none =>
      have hl : l = [] := by
        by_cases hl : l = []
        · exact hl
        · have := hr.at_ hl
          simp at this
      subst hl
      exact run_convert_bytes_nil w src e hs he _ _ dst hd
    | some A =>
      refine run_convert_bytes_back w src dst e A cap l hs he hd (fun j hj => ?_)
      have hl : l ≠ [] := by
        intro e
        subst e
        simp at hj
      have hA := hr.at_ hl
      simp only [Option.some.injEq] at hA
      subst hA
      rw [Addr.add_lit, hr.cell j (by simpa [wid] using hj)]
      have := hr.rep j l[j] (List.getElem?_eq_getElem hj) 0 (wid_pos _)
      simp only [wid, Nat.mul_one, Nat.add_zero, enc, nth] at this
      obtain ⟨e1, _⟩ := this.int_inv
      rw [e1]
  simp [Tells, execOp, h, key]

theorem madeCells_get {z : Array Value} {n i j : Nat} (h : i * z.size + j < n) (hj : j < z.size) : (madeCells z n).getD (i * z.size + j) Go.undef = z.getD j Go.undef := by
  have e : (i * z.size + j) % z.size = j := by
    rw [Nat.add_comm, Nat.add_mul_mod_self_right]
    exact Nat.mod_eq_of_lt hj
  have : (madeCells z n)[i * z.size + j]? = some (z.getD j Go.undef) := by
    unfold madeCells
    rw [Array.getElem?_map, Array.getElem?_range]
    simp [h, e, Array.getD_eq_getD_getElem?, Array.getElem?_eq_getElem hj, hj]
  exact getD_of this

end ops

end Go.Proofs.Ytnghlmogcbmlfaa
