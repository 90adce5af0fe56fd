/- The small machine's reads tell what the model's operations tell. -/
import Derived.Test.YtnghlmogcbmlfaaAmF
namespace Go.Proofs.Ytnghlmogcbmlfaa
set_option linter.unusedVariables false
set_option linter.unusedSimpArgs false

theorem cut_some {off n : Nat} {cs : List AV} {j : Nat} (h : j < (cut off n cs).length) : nth (cut off n cs) j = nth cs (off + j) ∧ off + j < cs.length := by
  induction cs generalizing off n j with
  | nil => cases off <;> cases n <;> simp [cut] at h
  | cons x r ih =>
    cases off with
    | succ o =>
      have := ih (off := o) (n := n) (j := j) (by simpa [cut] using h)
      refine ⟨?_, by simp; omega⟩
      rw [show o + 1 + j = (o + j) + 1 by omega]
      exact this.1
    | zero => cases n with
      | zero => simp [cut] at h
      | succ n => cases j with
        | zero => exact ⟨rfl, by simp⟩
        | succ j =>
          have := ih (off := 0) (n := n) (j := j) (by simpa [cut] using h)
          refine ⟨?_, by simp; omega⟩
          rw [show 0 + (j + 1) = (0 + j) + 1 by omega]
          exact this.1

theorem cut_length {off n : Nat} {cs : List AV} : (cut off n cs).length ≤ n := by
  induction cs generalizing off n with
  | nil => cases off <;> cases n <;> simp [cut]
  | cons x r ih =>
    cases off with
    | succ o => exact ih
    | zero => cases n with
      | zero => simp [cut]
      | succ n => simpa [cut] using ih (off := 0) (n := n)

section ops
variable {P : Program} {w0 : World} {F0 X0 : Nat → Prop} {s : St} {L : List LB} {a : Act} {w : World} {o : Oper} {Z : Nat → Prop}

theorem run_aggT {t : TypeId} {g : Bool} (h : aggT P t = some g) : (isAgg t).run P w = .ok g w := by
  unfold aggT at h
  unfold isAgg
  cases hu : P.underlying t with
  | none => simp [hu] at h
  | some d => cases d <;> simp_all [run_underlying hu]

theorem run_sizeT {t : TypeId} {n : Nat} (h : sizeT P t = some n) : (sizeOf t).run P w = .ok n w := by
  unfold sizeT at h
  cases hu : P.info? t with
  | none => simp [hu] at h
  | some i =>
    simp only [hu, Option.some.injEq] at h
    simp [sizeOf, typeInfo, hu, h]

/-- A load from cells that are known. -/
theorem load_cells {t : TypeId} {g : Bool} {n : Nat} (hg : aggT P t = some g) (hn : sizeT P t = some n) {cs : List AV} {off b ob : Nat} {C : Nat → Value}
    (hC : ∀ j, j < cs.length → w.cell? ⟨b, ob + j, none⟩ = some (C j)) (hr : ∀ j, j < cs.length → RepV w L Z (nth cs j) (C j)) {v : AV} (h : mkV g n (cut off n cs) = some v) :
    ∃ V, (Instr.loadAt t (.pointer (some ⟨b, ob + off, none⟩))).run P w = .ok V w ∧ RepV w L Z v V := by
  simp only [Instr.loadAt, Instr.sureAddr, Sem.run_bind, Sem.run_pure, Result.andThen_ok, loadVar, run_aggT hg]
  cases g with
  | true =>
    simp only [mkV] at h
    cases he : eqN (cut off n cs).length n with
    | false => simp [he] at h
    | true =>
      simp only [he, Option.some.injEq] at h
      subst h
      have hl : (cut off n cs).length = n := eqN_iff.1 he
      have hread : ∀ j, j < n → w.cell? ((⟨b, ob + off, none⟩ : Addr).add j) = some (C (off + j)) := by
        intro j hj
        rw [Addr.add_lit, show ob + off + j = ob + (off + j) by omega]
        exact hC _ (cut_some (off := off) (n := n) (cs := cs) (j := j) (by rw [hl]; exact hj)).2
      have hl2 := run_loadCells (P := P) w ⟨b, ob + off, none⟩ n (fun j => C (off + j)) hread
      refine ⟨.agg ((List.range n).map fun j => C (off + j)).toArray, by simp [run_sizeT hn, hl2], .agg _ _ (by simp [hl]) (fun j hj => ?_)⟩
      obtain ⟨h1, h2⟩ := cut_some hj
      rw [hl] at hj
      rw [h1]
      have e : ((List.range n).map fun j => C (off + j)).toArray.getD j Go.undef = C (off + j) := getD_of (by simp [show j < n by omega])
      rw [e]
      exact hr _ h2
  | false =>
    simp only [mkV] at h
    cases hc : cut off n cs with
    | nil => simp [hc] at h
    | cons x r => cases r with
      | cons y q => simp [hc] at h
      | nil =>
        simp only [hc, Option.some.injEq] at h
        subst h
        obtain ⟨h1, h2⟩ := cut_some (off := off) (n := n) (cs := cs) (j := 0) (by rw [hc]; simp)
        rw [hc] at h1
        have hx : x = nth cs off := by simpa [nth] using h1
        refine ⟨C off, ?_, by rw [hx]; exact hr off (by simpa using h2)⟩
        have := hC off (by simpa using h2)
        simp [load, Sem.run, this]

theorem mem_cells (hs : SimM w0 F0 X0 s.m L w) {id b : Nat} {cs : List AV} (hL : L[id]? = some (.cell b)) (hm : bnth s.m id = .cells cs) :
    ∃ C t, w.heap[b]? = some (.cells C t (0, 0)) ∧ C.size = cs.length ∧ ∀ j, j < cs.length → RepV w L (ZZ X0 L) (nth cs j) (C.getD j Go.undef) := by
  have h := hs.blk id _ hL
  rw [hm] at h
  exact h

theorem mem_row (hs : SimM w0 F0 X0 s.m L w) {id b v n v' : Nat} {k : Kd} {l : List (T k)} (hL : L[id]? = some (.row (some b) v n)) (hm : bnth s.m id = .row v' k l) :
    v = v' ∧ n = wid k ∧ l.length ≤ maxLen ∧ ∃ C t z, w.heap[b]? = some (.cells C t z) ∧ NoMark z C.size ∧ l.length * wid k ≤ C.size ∧
      ∀ i x, l[i]? = some x → ∀ j, j < wid k → RepV w L (ZZ X0 L) (nth (enc k x) j) (C.getD (i * wid k + j) Go.undef) := by
  have h := hs.blk id _ hL
  rw [hm] at h
  exact h

theorem mem_row0 (hs : SimM w0 F0 X0 s.m L w) {id v n v' : Nat} {k : Kd} {l : List (T k)} (hL : L[id]? = some (.row none v n)) (hm : bnth s.m id = .row v' k l) : v = v' ∧ n = wid k ∧ l = [] := by
  have h := hs.blk id _ hL
  rw [hm] at h
  exact h

theorem not_dead (hs : SimM w0 F0 X0 s.m L w) {id : Nat} {β : Blk} (hL : L[id]? = some .dead) (hm : bnth s.m id = β) : β = .dead := by
  have h := hs.blk id _ hL
  rw [hm] at h
  cases β
  · rfl
  · exact h.elim
  · exact h.elim

theorem not_gone (hs : SimM w0 F0 X0 s.m L w) {id v v' : Nat} {x : LB} {k : Kd} {l : List (T k)} (hL : L[id]? = some x) (hx : Gone x v) (hm : bnth s.m id = .row v' k l) : v ≠ v' := by
  have h := hs.blk id _ hL
  rw [hm] at h
  rcases hx with rfl | ⟨b, u, n, rfl, hlt⟩
  · exact h.elim
  · cases b with
    | none => have := h.1; omega
    | some b => have := h.1; omega

theorem cellGet {b j : Nat} {C : Array Value} {t : TypeId} {z : Nat × Nat} (h : w.heap[b]? = some (.cells C t z)) (hj : j < C.size) : w.cell? ⟨b, j, none⟩ = some (C.getD j Go.undef) := by
  simp [World.cell?, h, Array.getD_eq_getD_getElem?, Array.getElem?_eq_getElem hj]

theorem row_bound {k : Kd} {l : List (T k)} {i : Nat} {x : T k} {j n : Nat} (hx : l[i]? = some x) (hj : j < wid k) (hn : l.length * wid k ≤ n) : i * wid k + j < n := by
  have hi : i < l.length := (List.getElem?_eq_some_iff.1 hx).1
  have : (i + 1) * wid k ≤ l.length * wid k := Nat.mul_le_mul_right _ hi
  rw [Nat.add_mul] at this
  omega

/-- A load. -/
theorem tells_load (hs : Sim w0 F0 X0 s L a w) {t : TypeId} {x : Operand} {g : Bool} {n : Nat} {X v : AV} (h : o.op = .load t x) (hg : aggT P t = some g) (hn : sizeT P t = some n)
    (hx : RepV w L (ZZ X0 L) X (a.eval x)) (hv : ldA s.m g n X = some v) : ∃ V, Tells P o a w V ∧ RepV w L (ZZ X0 L) v V := by
  have fin : ∀ V, (Instr.loadAt t (a.eval x)).run P w = .ok V w → Tells P o a w V := by
    intro V hV
    simp [Tells, execOp, h, hV]
  cases X <;> simp only [ldA] at hv <;> try (simp at hv; done)
  case ip cs off =>
    obtain ⟨b, ob, C, e, hz, hb, hC, hr⟩ := hx.ip_inv
    obtain ⟨V, h1, h2⟩ := load_cells (P := P) hg hn hC hr hv
    exact ⟨V, fin V (by rw [e]; exact h1), h2⟩
  case ptr id off =>
    cases hm : bnth s.m id with
    | dead => simp [hm] at hv
    | row v k l => simp [hm] at hv
    | cells cs =>
      simp only [hm] at hv
      obtain ⟨b, e, hL⟩ := hx.ptr_inv
      rcases hL with hL | hL
      · obtain ⟨C, ty, hh, hsz, hr⟩ := mem_cells hs.mem hL hm
        obtain ⟨V, h1, h2⟩ := load_cells (P := P) (b := b) (ob := 0) (C := fun j => C.getD j Go.undef) hg hn (fun j hj => by simpa using cellGet hh (by omega)) hr hv
        exact ⟨V, fin V (by rw [e]; simpa using h1), h2⟩
      · have := not_dead hs.mem hL hm
        cases this
  case rp id v0 i off =>
    cases hm : bnth s.m id with
    | dead => simp [hm] at hv
    | cells cs => simp [hm] at hv
    | row v' k l =>
      simp only [hm] at hv
      cases he : eqN v0 v' with
      | false => simp [he] at hv
      | true =>
        obtain rfl := eqN_iff.1 he
        simp only [he] at hv
        cases hi : l[i]? with
        | none => simp [hi] at hv
        | some y =>
          simp only [hi] at hv
          obtain ⟨b, n', e, hL⟩ := hx.rp_inv
          rcases hL with hL | ⟨z, hL, hg'⟩
          · obtain ⟨_, rfl, _, C, ty, z, hh, _, hsz, hr⟩ := mem_row hs.mem hL hm
            obtain ⟨V, h1, h2⟩ := load_cells (P := P) (b := b) (ob := i * wid k) (C := fun j => C.getD (i * wid k + j) Go.undef) hg hn
              (fun j hj => cellGet hh (row_bound hi (by rw [enc_length] at hj; exact hj) hsz)) (fun j hj => hr i y hi j (by rw [enc_length] at hj; exact hj)) hv
            exact ⟨V, fin V (by rw [e]; exact h1), h2⟩
          · exact absurd rfl (not_gone hs.mem hL hg' hm)

theorem ldb_ld {m : List Blk} {g : Bool} {n : Nat} {X v : AV} (h : ldbA m g n X = some v) : ldA m g n X = some v := by
  cases X <;> first | exact h | simp [ldbA] at h

theorem tells_fieldAddr (hs : Sim w0 F0 X0 s L a w) {t : TypeId} {x : Operand} {f : Nat} {fs : Array Field} {fd : Field} {n : Nat} {X : AV} (h : o.op = .fieldAddr t x f) (ht : P.underlying t = some (.struct fs)) (hf : fs[f]? = some fd)
    (hn : sizeT P fd.type = some n) (hn0 : n ≠ 0) (hx : RepV w L (ZZ X0 L) X (a.eval x)) {m' : List Blk} {v : AV}
    (hv : (match X with | .ip cs o => some (AV.ip cs (o + fd.offset), s.m) | .ptr id o => some (.ptr id (o + fd.offset), s.m) | .rp id v i o => some (.rp id v i (o + fd.offset), s.m) | _ => none) = some (v, m')) :
    m' = s.m ∧ ∃ V, Tells P o a w V ∧ RepV w L (ZZ X0 L) v V := by
  have fin : ∀ p : Addr, a.eval x = .pointer (some p) → Tells P o a w (.pointer (some (p.add fd.offset))) := by
    intro p hp
    simp [Tells, execOp, h, hp, Instr.fieldAt, run_underlying ht, hf, Instr.sureAddr, fieldPlace, run_sizeT hn, hn0]
  cases X <;> simp only at hv <;> try (simp at hv; done)
  case ip cs off =>
    simp only [Option.some.injEq, Prod.mk.injEq] at hv
    obtain ⟨rfl, rfl⟩ := hv
    obtain ⟨b, ob, C, e, hz, hb, hC, hr⟩ := hx.ip_inv
    refine ⟨rfl, _, fin _ e, ?_⟩
    rw [Addr.add_lit, Nat.add_assoc]
    exact .ip cs (off + fd.offset) b ob C hz hC hr hb
  case ptr id off =>
    simp only [Option.some.injEq, Prod.mk.injEq] at hv
    obtain ⟨rfl, rfl⟩ := hv
    obtain ⟨b, e, hL⟩ := hx.ptr_inv
    refine ⟨rfl, _, fin _ e, ?_⟩
    rw [Addr.add_lit]
    exact .ptr id _ b hL
  case rp id v0 i off =>
    simp only [Option.some.injEq, Prod.mk.injEq] at hv
    obtain ⟨rfl, rfl⟩ := hv
    obtain ⟨b, n', e, hL⟩ := hx.rp_inv
    refine ⟨rfl, _, fin _ e, ?_⟩
    rw [Addr.add_lit, Nat.add_assoc]
    exact .rp id v0 i _ b n' hL

end ops

end Go.Proofs.Ytnghlmogcbmlfaa
