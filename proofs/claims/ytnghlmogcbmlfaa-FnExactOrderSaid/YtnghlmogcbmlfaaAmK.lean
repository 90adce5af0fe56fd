/- What makes memory, and what writes it: the small machine and the model do alike. -/
import Derived.Test.YtnghlmogcbmlfaaAmJ
namespace Go.Proofs.Ytnghlmogcbmlfaa
set_option linter.unusedVariables false
set_option linter.unusedSimpArgs false

/-- The operation tells a value, or nothing, in a world that goes on. -/
def Does1 (P : Program) (o : Oper) (a : Act) (w : World) (V : Value) (w' : World) : Prop :=
  (execOp a.eval o).run P w = .ok (.value V) w' ∨ ((execOp a.eval o).run P w = .ok .skip w' ∧ V = Go.undef)

theorem Tells.does {P : Program} {o : Oper} {a : Act} {w : World} {V : Value} (h : Tells P o a w V) : Does1 P o a w V w := .inl h

/-- What a row of the small machine's memory stands for is told by its cells. -/
structure Reads (w : World) (L : List LB) (Z : Nat → Prop) (k : Kd) (l : List (T k)) (V : Value) (p : Option Addr) (cap b off : Nat) (C : Nat → Value) : Prop where
  val : V = .slice p l.length cap
  len : l.length ≤ maxLen
  at_ : l ≠ [] → p = some ⟨b, off, none⟩
  cell : ∀ j, j < l.length * wid k → w.cell? ⟨b, off + j, none⟩ = some (C j)
  rep : ∀ i x, l[i]? = some x → ∀ j, j < wid k → RepV w L Z (nth (enc k x) j) (C (i * wid k + j))

section ops
variable {P : Program} {kt : KT} {w0 : World} {F0 X0 : Nat → Prop} {m : List Blk} {L : List LB} {a : Act} {w : World} {o : Oper} {Z : Nat → Prop}

theorem blk_dead (hs : SimM w0 F0 X0 m L w) {id : Nat} {β : Blk} (hL : L[id]? = some .dead) (hm : bnth m id = β) : β = .dead := by
  have h := hs.blk id _ hL
  rw [hm] at h
  cases β
  · rfl
  · exact h.elim
  · exact h.elim

theorem blk_gone (hs : SimM w0 F0 X0 m L w) {id v v' : Nat} {x : LB} {k : Kd} {l : List (T k)} (hL : L[id]? = some x) (hx : Gone x v) (hm : bnth m id = .row v' k l) : v ≠ v' := by
  have h := hs.blk id _ hL
  rw [hm] at h
  rcases hx with rfl | ⟨b, u, n, rfl, hlt⟩
  · exact h.elim
  · cases b with
    | none => have := h.1; omega
    | some b => have := h.1; omega

theorem blk_row (hs : SimM w0 F0 X0 m L w) {id b v n v' : Nat} {k : Kd} {l : List (T k)} (hL : L[id]? = some (.row (some b) v n)) (hm : bnth m id = .row v' k l) :
    v = v' ∧ n = wid k ∧ l.length ≤ maxLen ∧ ∃ C t z, w.heap[b]? = some (.cells C t z) ∧ NoMark z C.size ∧ l.length * wid k ≤ C.size ∧
      ∀ i x, l[i]? = some x → ∀ j, j < wid k → RepV w L (ZZ X0 L) (nth (enc k x) j) (C.getD (i * wid k + j) Go.undef) := by
  have h := hs.blk id _ hL
  rw [hm] at h
  exact h

theorem blk_row0 (hs : SimM w0 F0 X0 m L w) {id v n v' : Nat} {k : Kd} {l : List (T k)} (hL : L[id]? = some (.row none v n)) (hm : bnth m id = .row v' k l) : v = v' ∧ n = wid k ∧ l = [] := by
  have h := hs.blk id _ hL
  rw [hm] at h
  exact h

theorem blk_cells (hs : SimM w0 F0 X0 m L w) {id b : Nat} {cs : List AV} (hL : L[id]? = some (.cell b)) (hm : bnth m id = .cells cs) :
    ∃ C t, w.heap[b]? = some (.cells C t (0, 0)) ∧ C.size = cs.length ∧ ∀ j, j < cs.length → RepV w L (ZZ X0 L) (nth cs j) (C.getD j Go.undef) := by
  have h := hs.blk id _ hL
  rw [hm] at h
  exact h

/-- A slice value that reads as a list. -/
theorem as_read (hs : SimM w0 F0 X0 m L w) {k : Kd} {v : AV} {V : Value} {l : List (T k)} (hv : RepV w L (ZZ X0 L) v V) (h : asList k m v = some l) :
    ∃ p cap b off C, Reads w L (ZZ X0 L) k l V p cap b off C := by
  cases v <;> simp only [asList] at h <;> try (simp at h; done)
  case nil =>
    simp only [Option.some.injEq] at h
    subst h
    obtain ⟨p, rfl⟩ := hv.nil_inv
    exact ⟨p, 0, 0, 0, fun _ => Go.undef, rfl, Nat.zero_le _, fun h => absurd rfl h, fun j hj => by simp at hj, fun i x hx => by simp at hx⟩
  case sl k' l' =>
    obtain ⟨ek, el⟩ := castK_some h
    subst ek
    obtain rfl : l' = l := el.symm
    obtain ⟨p, cap, b, off, C, e, h1, h2, h3, h4, h5⟩ := hv.sl_inv
    exact ⟨p, cap, b, off, C, e, h2, fun hl => (h3 hl).1, h4, h5⟩
  case ms id v0 lo len =>
    cases hm : bnth m id with
    | dead => simp [hm] at h
    | cells cs => simp [hm] at h
    | row v' k' l' =>
      simp only [hm] at h
      cases he : eqN v0 v' with
      | false => simp [he] at h
      | true =>
        obtain rfl := eqN_iff.1 he
        simp only [he] at h
        split at h
        · rename_i hle
          obtain ⟨ek, el⟩ := castK_some h
          subst ek
          obtain rfl : (l'.drop lo).take len = l := el.symm
          have hlen : ((l'.drop lo).take len).length = len := by simp; omega
          rcases hv.ms_inv with ⟨b, n', cap, ex, hcap, hL⟩ | ⟨n', A, rfl, rfl, ex, hL⟩ | ⟨b, off, n', ⟨rfl, hlo⟩, ex, hL⟩
          · rcases hL with ⟨hL, hsz⟩ | ⟨z, hL, hg⟩
            · obtain ⟨_, rfl, hml, C, t, z, hh, hnm, hsz2, hr⟩ := blk_row hs hL hm
              have hb : ∀ j, j < len * wid k → lo * wid k + j < C.size := by
                intro j hj
                have : (lo + len) * wid k ≤ l'.length * wid k := Nat.mul_le_mul_right _ hle
                rw [Nat.add_mul] at this
                omega
              refine ⟨_, cap, b, lo * wid k, fun j => C.getD (lo * wid k + j) Go.undef, ?_, ?_, fun _ => rfl, ?_, ?_⟩
              · rw [hlen]; exact ex
              · rw [hlen]; omega
              · intro j hj
                rw [hlen] at hj
                exact cellGet hh (hb j hj)
              · intro i x hx j hj
                rw [List.getElem?_take] at hx
                split at hx
                · rw [List.getElem?_drop] at hx
                  have := hr _ x hx j hj
                  rw [Nat.add_mul, Nat.add_assoc] at this
                  exact this
                · simp at hx
            · exact absurd rfl (blk_gone hs hL hg hm)
          · refine ⟨A, 0, 0, 0, fun _ => Go.undef, ?_, by rw [hlen]; exact Nat.zero_le _, fun hl => ?_, fun j hj => by rw [hlen] at hj; simp at hj, fun i x hx => ?_⟩
            · rw [hlen]; exact ex
            · exact absurd (List.length_eq_zero_iff.1 hlen) hl
            · simp at hx
          · refine ⟨_, 0, b, off, fun _ => Go.undef, ?_, by rw [hlen]; exact Nat.zero_le _, fun _ => rfl, fun j hj => by rw [hlen] at hj; simp at hj, fun i x hx => ?_⟩
            · rw [hlen]; exact ex
            · simp at hx
        · simp at h

/-- A new variable. -/
theorem push_cells (hs : SimM w0 F0 X0 m L w) {cs : List AV} {C : Array Value} {t : TypeId} (hsz : C.size = cs.length) (hr : ∀ j, j < cs.length → RepV w L (ZZ X0 L) (nth cs j) (C.getD j Go.undef)) :
    SimM w0 F0 X0 (m ++ [.cells cs]) (L ++ [.cell w.heap.size]) (w.alloc (.cells C t)) ∧ Ext w L (ZZ X0 L) (w.alloc (.cells C t)) (L ++ [.cell w.heap.size]) (ZZ X0 (L ++ [.cell w.heap.size])) ∧
      RepV (w.alloc (.cells C t)) (L ++ [.cell w.heap.size]) (ZZ X0 (L ++ [.cell w.heap.size])) (.ptr m.length 0) (.pointer (some ⟨w.heap.size, 0, none⟩)) := by
  have hsame : ∀ b, b < w.heap.size → (w.alloc (.cells C t)).heap[b]? = w.heap[b]? := fun b hb => heap_alloc_old w _ b hb
  have hown : ∀ b, (LB.cell w.heap.size).owns b → w.heap.size ≤ b := by
    intro b hb
    have : w.heap.size = b := hb
    omega
  have e := SimM.ext_push (L := L) (X0 := X0) (w := w) (w' := w.alloc (.cells C t)) (y := .cell w.heap.size) (by simp) hsame hown
  refine ⟨hs.push (by simp) hsame hown rfl rfl rfl ⟨C, t, heap_alloc_new w _, hsz, fun j hj => (hr j hj).ext e⟩, e, ?_⟩
  exact .ptr _ _ _ (.inl (by rw [← hs.ll]; simp))

/-- A new row. -/
theorem push_row (hs : SimM w0 F0 X0 m L w) {w1 : World} {k : Kd} {l : List (T k)} {C : Array Value} {t : TypeId} {z : Nat × Nat} {cap : Nat} (h1 : w1.heap = w.heap) (hos : w1.os = w.os) (htp : w1.tape = w.tape) (hou : w1.output = w.output)
    (hsz : cap * wid k ≤ C.size) (hc : l.length ≤ cap ∧ cap ≤ maxLen) (hz : NoMark z C.size)
    (hr : ∀ i x, l[i]? = some x → ∀ j, j < wid k → RepV w L (ZZ X0 L) (nth (enc k x) j) (C.getD (i * wid k + j) Go.undef)) :
    ∃ L', SimM w0 F0 X0 (m ++ [.row 0 k l]) L' (w1.alloc (.cells C t z)) ∧ Ext w L (ZZ X0 L) (w1.alloc (.cells C t z)) L' (ZZ X0 L') ∧
      RepV (w1.alloc (.cells C t z)) L' (ZZ X0 L') (.ms m.length 0 0 l.length) (.slice (some ⟨w.heap.size, 0, none⟩) l.length cap) := by
  have hsame : ∀ b, b < w.heap.size → (w1.alloc (.cells C t z)).heap[b]? = w.heap[b]? := fun b hb => by
    rw [heap_alloc_old w1 _ b (by rw [h1]; exact hb), h1]
  have hsize : w.heap.size ≤ (w1.alloc (.cells C t z)).heap.size := by simp [h1]
  by_cases hcp : cap = 0
  · have hl0 : l = [] := List.length_eq_zero_iff.1 (by omega)
    subst hl0 hcp
    refine ⟨L ++ [.row none 0 (wid k)], hs.push (y := .row none 0 (wid k)) (β := .row 0 k []) hsize hsame (fun b hb => False.elim hb) hos htp hou ⟨rfl, rfl, rfl⟩, SimM.ext_push (y := .row none 0 (wid k)) hsize hsame (fun b hb => False.elim hb), ?_⟩
    exact .ms0 _ 0 (wid k) _ (.inl (by rw [← hs.ll]; simp))
  refine ⟨L ++ [.row (some w.heap.size) 0 (wid k)], ?_⟩
  have hown : ∀ b, (LB.row (some w.heap.size) 0 (wid k)).owns b → w.heap.size ≤ b := by
    intro b hb
    have : w.heap.size = b := hb
    omega
  have hnew : (w1.alloc (.cells C t z)).heap[w.heap.size]? = some (.cells C t z) := by rw [← h1]; exact heap_alloc_new w1 _
  have e := SimM.ext_push (L := L) (X0 := X0) (w := w) (w' := w1.alloc (.cells C t z)) (y := .row (some w.heap.size) 0 (wid k)) hsize hsame hown
  have hlw : l.length * wid k ≤ C.size := Nat.le_trans (Nat.mul_le_mul_right _ hc.1) hsz
  refine ⟨hs.push hsize hsame hown hos htp hou ⟨rfl, rfl, by omega, C, t, z, hnew, hz, hlw, fun i x hx j hj => (hr i x hx j hj).ext e⟩, e, ?_⟩
  have := RepV.ms (w := w1.alloc (.cells C t z)) (L := L ++ [.row (some w.heap.size) 0 (wid k)]) (Z := ZZ X0 (L ++ [.row (some w.heap.size) 0 (wid k)])) m.length 0 0 l.length cap w.heap.size (wid k)
    (.inl ⟨by rw [← hs.ll]; simp, by simp [szOf, hnew]; exact hsz⟩) hc (fun _ => by omega)
  simpa using this

theorem NoMark.zero (n : Nat) : NoMark (0, 0) n := by
  intro o _ h
  simp at h

/-- What stands in a block behind stores. -/
theorem setCells_heap (b : Nat) : ∀ (vs : List Value) (o : Nat) (w : World) (C : Array Value) (t : TypeId) (z : Nat × Nat), w.heap[b]? = some (.cells C t z) → o + vs.length ≤ C.size →
    ∃ C', (w.setCells b o vs).heap[b]? = some (.cells C' t z) ∧ C'.size = C.size ∧ ∀ j, j < C.size → C'.getD j Go.undef = if o ≤ j ∧ j < o + vs.length then vs[j - o]?.getD Go.undef else C.getD j Go.undef := by
  intro vs
  induction vs with
  | nil =>
    intro o w C t z h hl
    exact ⟨C, h, rfl, fun j hj => by rw [if_neg (by simp)]⟩
  | cons v r ih =>
    intro o w C t z h hl
    simp only [List.length_cons] at hl
    have h1 : (w.setCell ⟨b, o, none⟩ v).heap[b]? = some (.cells (C.setIfInBounds o v) t z) := by
      simp only [World.setCell]
      rw [Array.getElem?_modify]
      simp [h]
    obtain ⟨C', h2, h3, h4⟩ := ih (o + 1) (w.setCell ⟨b, o, none⟩ v) (C.setIfInBounds o v) t z h1 (by simp; omega)
    refine ⟨C', h2, by simpa using h3, fun j hj => ?_⟩
    rw [h4 j (by simpa using hj)]
    by_cases hj1 : o + 1 ≤ j ∧ j < o + 1 + r.length
    · rw [if_pos hj1, if_pos ⟨by omega, by simp; omega⟩]
      have : j - o = (j - (o + 1)) + 1 := by omega
      rw [this]
      simp
    · rw [if_neg hj1]
      by_cases hjo : j = o
      · subst hjo
        rw [if_pos ⟨by omega, by simp⟩]
        simp [Array.getD_eq_getD_getElem?, hj]
      · rw [if_neg (by simp only [List.length_cons]; omega)]
        simp [Array.getD_eq_getD_getElem?, Array.getElem?_setIfInBounds, Ne.symm hjo]

theorem setCells_other (b : Nat) : ∀ (vs : List Value) (o : Nat) (w : World) (c : Nat), c ≠ b → (w.setCells b o vs).heap[c]? = w.heap[c]?
  | [], _, _, _, _ => rfl
  | v :: r, o, w, c, h => by
    rw [World.setCells, setCells_other b r _ _ c h]
    exact heap_setCell_other w ⟨b, o, none⟩ c v h

theorem setCells_size (b : Nat) : ∀ (vs : List Value) (o : Nat) (w : World), (w.setCells b o vs).heap.size = w.heap.size
  | [], _, _ => rfl
  | v :: r, o, w => by rw [World.setCells, setCells_size b r]; simp

theorem setCells_env (b : Nat) : ∀ (vs : List Value) (o : Nat) (w : World), (w.setCells b o vs).os = w.os ∧ (w.setCells b o vs).tape = w.tape ∧ (w.setCells b o vs).output = w.output
  | [], _, _ => ⟨rfl, rfl, rfl⟩
  | v :: r, o, w => by rw [World.setCells]; exact setCells_env b r _ _

theorem setCells_szOf {b : Nat} {vs : List Value} {o : Nat} {C : Array Value} {t : TypeId} {z : Nat × Nat} (h : w.heap[b]? = some (.cells C t z)) (hl : o + vs.length ≤ C.size) (c : Nat) :
    szOf (w.setCells b o vs) c = szOf w c := by
  by_cases hc : c = b
  · subst hc
    obtain ⟨C', h1, h2, _⟩ := setCells_heap c vs o w C t z h hl
    simp [szOf, h1, h, h2]
  · simp [szOf, setCells_other b vs o w c hc]

end ops

end Go.Proofs.Ytnghlmogcbmlfaa
