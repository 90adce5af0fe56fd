/- How the small machine's values and memory stand to the model's: what a value reads as, what a call may write, and that a reading lasts while nothing that it reads is written. -/
import Derived.Test.YtnghlmogcbmlfaaAmB
import Derived.Below
import Derived.Deep.AppendSrc
import Derived.Laws.IdiomCopy
namespace Go.Proofs.Ytnghlmogcbmlfaa
set_option linter.unusedVariables false
set_option linter.unusedSimpArgs false

/-- Where a block of the small machine lies. -/
inductive LB where
  | dead
  | cell (b : Nat)
  | row (b : Option Nat) (v n : Nat)

def LB.owns : LB → Nat → Prop
  | .cell b, c => b = c
  | .row (some b) _ _, c => b = c
  | _, _ => False

def Owns (L : List LB) (b : Nat) : Prop := ∃ (i : Nat) (x : LB), L[i]? = some x ∧ x.owns b

def szOf (w : World) (b : Nat) : Nat :=
  match w.heap[b]? with
  | some (.cells c _ _) => c.size
  | _ => 0

/-- What may become of a place: it stays, it is given up, its row is another one. -/
def LE (x y : LB) : Prop := y = x ∨ y = .dead ∨ ∃ b v n c u, x = .row b v n ∧ y = .row c u n ∧ v < u

theorem LE.refl (x : LB) : LE x x := .inl rfl

theorem LE.trans {x y z : LB} (h : LE x y) (k : LE y z) : LE x z := by
  rcases k with rfl | rfl | ⟨b, v, n, c, u, rfl, rfl, hlt⟩
  · exact h
  · exact .inr (.inl rfl)
  · rcases h with rfl | h | ⟨b', v', n', c', u', rfl, hy, hlt'⟩
    · exact .inr (.inr ⟨b, v, n, c, u, rfl, rfl, hlt⟩)
    · simp at h
    · simp only [LB.row.injEq] at hy
      obtain ⟨rfl, rfl, rfl⟩ := hy
      exact .inr (.inr ⟨b', v', n, c, u, rfl, rfl, by omega⟩)

/-- The block has gone on: what named it so names nothing any more. -/
def Gone (x : LB) (v : Nat) : Prop := x = .dead ∨ ∃ b u n, x = .row b u n ∧ v < u

theorem Gone.le {x y : LB} {v : Nat} (h : Gone x v) (k : LE x y) : Gone y v := by
  rcases k with rfl | rfl | ⟨b, v', n, c, u, rfl, rfl, hlt⟩
  · exact h
  · exact .inl rfl
  · rcases h with h | ⟨b', u', n', hx, hlt'⟩
    · simp at h
    · simp only [LB.row.injEq] at hx
      obtain ⟨rfl, rfl, rfl⟩ := hx
      exact .inr ⟨c, u, n, rfl, by omega⟩

/-- What a value of the model reads as. -/
inductive RepV (w : World) (L : List LB) (Z : Nat → Prop) : AV → Value → Prop
  | undef : RepV w L Z .undef Go.undef
  | junk (V : Value) (h : V.oneCell' = true) : RepV w L Z .junk V
  | bool (b : Bool) : RepV w L Z (.bool b) (.bool b)
  | int (k : IntKind) (n : Int) (h : InK k n) : RepV w L Z (.int k n) (.int k n)
  | str (s : ByteArray) (h : s.size ≤ maxLen) : RepV w L Z (.str s) (.string s)
  | nil (a : Option Addr) : RepV w L Z .nil (.slice a 0 0)
  | err0 : RepV w L Z (.err false) .nilIface
  | err1 (t : TypeId) (x : Value) : RepV w L Z (.err true) (.iface t x)
  | sl (k : Kd) (l : List (T k)) (a : Option Addr) (cap b off : Nat) (C : Nat → Value)
      (hcap : l.length ≤ cap) (hlen : l.length ≤ maxLen)
      (ha : l ≠ [] → a = some ⟨b, off, none⟩ ∧ ¬ Z b)
      (hC : ∀ j, j < l.length * wid k → w.cell? ⟨b, off + j, none⟩ = some (C j))
      (hr : ∀ i x, l[i]? = some x → ∀ j, j < wid k → RepV w L Z (nth (enc k x) j) (C (i * wid k + j))) :
      RepV w L Z (.sl k l) (.slice a l.length cap)
  | agg (cs : List AV) (Cs : Array Value) (hs : Cs.size = cs.length) (hr : ∀ j, j < cs.length → RepV w L Z (nth cs j) (Cs.getD j Go.undef)) :
      RepV w L Z (.agg cs) (.agg Cs)
  | tup (cs : List AV) (Cs : Array Value) (hs : Cs.size = cs.length) (hr : ∀ j, j < cs.length → RepV w L Z (nth cs j) (Cs.getD j Go.undef)) :
      RepV w L Z (.tup cs) (.tuple Cs)
  | fn (f : FuncId) (cs : List AV) (Cs : Array Value) (hs : Cs.size = cs.length) (hr : ∀ j, j < cs.length → RepV w L Z (nth cs j) (Cs.getD j Go.undef)) :
      RepV w L Z (.fn f cs) (.func (.func f) #[] Cs)
  | ip (cs : List AV) (off b o : Nat) (C : Nat → Value) (hz : ¬ Z b)
      (hC : ∀ j, j < cs.length → w.cell? ⟨b, o + j, none⟩ = some (C j))
      (hr : ∀ j, j < cs.length → RepV w L Z (nth cs j) (C j)) (hb : b < w.heap.size) :
      RepV w L Z (.ip cs off) (.pointer (some ⟨b, o + off, none⟩))
  | ptr (id off b : Nat) (h : L[id]? = some (.cell b) ∨ L[id]? = some .dead) : RepV w L Z (.ptr id off) (.pointer (some ⟨b, off, none⟩))
  | rp (id v i off b n : Nat) (h : L[id]? = some (.row (some b) v n) ∨ ∃ x, L[id]? = some x ∧ Gone x v) : RepV w L Z (.rp id v i off) (.pointer (some ⟨b, i * n + off, none⟩))
  | ms (id v lo len cap b n : Nat) (h : (L[id]? = some (.row (some b) v n) ∧ (lo + cap) * n ≤ szOf w b) ∨ ∃ x, L[id]? = some x ∧ Gone x v) (hcap : len ≤ cap ∧ cap ≤ maxLen) (hlo : lo = 0 → 0 < cap) :
      RepV w L Z (.ms id v lo len) (.slice (some ⟨b, lo * n, none⟩) len cap)
  | ms0 (id v n : Nat) (a : Option Addr) (h : L[id]? = some (.row none v n) ∨ ∃ x, L[id]? = some x ∧ Gone x v) : RepV w L Z (.ms id v 0 0) (.slice a 0 0)
  | msE (id v lo b off n : Nat) (h : L[id]? = some (.row (some b) v n) ∨ ∃ x, L[id]? = some x ∧ Gone x v) (hlo : 0 < lo) : RepV w L Z (.ms id v lo 0) (.slice (some ⟨b, off, none⟩) 0 0)

/-- The world goes on so that what is read stays. -/
structure Ext (w : World) (L : List LB) (Z : Nat → Prop) (w' : World) (L' : List LB) (Z' : Nat → Prop) : Prop where
  size : w.heap.size ≤ w'.heap.size
  same : ∀ b, b < w.heap.size → ¬ Z b → w'.heap[b]? = w.heap[b]?
  sz : ∀ b, b < w.heap.size → szOf w' b = szOf w b
  z : ∀ b, Z' b → Z b ∨ w.heap.size ≤ b
  le : ∀ (i : Nat) (x : LB), L[i]? = some x → ∃ y, L'[i]? = some y ∧ LE x y

theorem Ext.refl (w : World) (L : List LB) (Z : Nat → Prop) : Ext w L Z w L Z :=
  ⟨Nat.le_refl _, fun _ _ _ => rfl, fun _ _ => rfl, fun _ h => .inl h, fun _ x h => ⟨x, h, .refl x⟩⟩

theorem Ext.trans {w : World} {L : List LB} {Z : Nat → Prop} {w' : World} {L' : List LB} {Z' : Nat → Prop} {w2 : World} {L2 : List LB} {Z2 : Nat → Prop}
    (h : Ext w L Z w' L' Z') (k : Ext w' L' Z' w2 L2 Z2) : Ext w L Z w2 L2 Z2 where
  size := Nat.le_trans h.size k.size
  same b hb hz := by
    have hb' := Nat.lt_of_lt_of_le hb h.size
    have hz' : ¬ Z' b := fun hz' => (h.z b hz').elim hz (fun h => by omega)
    rw [k.same b hb' hz', h.same b hb hz]
  sz b hb := by rw [k.sz b (Nat.lt_of_lt_of_le hb h.size), h.sz b hb]
  z b hb := by
    rcases k.z b hb with h1 | h1
    · exact h.z b h1
    · exact .inr (Nat.le_trans h.size h1)
  le i x hx := by
    obtain ⟨y, hy, l1⟩ := h.le i x hx
    obtain ⟨z, hz, l2⟩ := k.le i y hy
    exact ⟨z, hz, l1.trans l2⟩

theorem cell_lt {w : World} {b o : Nat} {V : Value} (h : w.cell? ⟨b, o, none⟩ = some V) : b < w.heap.size :=
  World.block_lt_of_cell? (w := w) (a := ⟨b, o, none⟩) h

theorem cell_same {w w' : World} {b o : Nat} (h : w'.heap[b]? = w.heap[b]?) : w'.cell? ⟨b, o, none⟩ = w.cell? ⟨b, o, none⟩ := by
  simp only [World.cell?, h]

theorem RepV.ext {w : World} {L : List LB} {Z : Nat → Prop} {w' : World} {L' : List LB} {Z' : Nat → Prop} {v : AV} {V : Value}
    (h : RepV w L Z v V) (e : Ext w L Z w' L' Z') : RepV w' L' Z' v V := by
  induction h with
  | undef => exact .undef
  | junk V h => exact .junk V h
  | bool b => exact .bool b
  | int k n h => exact .int k n h
  | str s h => exact .str s h
  | nil a => exact .nil a
  | err0 => exact .err0
  | err1 t x => exact .err1 t x
  | sl k l a cap b off C hcap hlen ha hC hr ih =>
    by_cases hl : l = []
    · subst hl
      exact .sl k [] a cap b off C hcap hlen (fun h => absurd rfl h) (fun j hj => by simp at hj) (fun i x hx => by simp at hx)
    · obtain ⟨ha1, hz⟩ := ha hl
      have hb : b < w.heap.size := by
        have hp : 0 < l.length * wid k := Nat.mul_pos (List.length_pos_iff.2 hl) (wid_pos k)
        exact cell_lt (hC 0 hp)
      exact .sl k l a cap b off C hcap hlen (fun _ => ⟨ha1, fun hz' => (e.z b hz').elim hz (fun h => by omega)⟩)
        (fun j hj => by rw [cell_same (e.same b hb hz)]; exact hC j hj) ih
  | agg cs Cs hs hr ih => exact .agg cs Cs hs ih
  | tup cs Cs hs hr ih => exact .tup cs Cs hs ih
  | fn f cs Cs hs hr ih => exact .fn f cs Cs hs ih
  | ip cs off b o C hz hC hr hb ih =>
    exact .ip cs off b o C (fun hz' => (e.z b hz').elim hz (fun h => by omega)) (fun j hj => by rw [cell_same (e.same b hb hz)]; exact hC j hj) ih (Nat.lt_of_lt_of_le hb e.size)
  | ptr id off b h =>
    refine .ptr id off b ?_
    rcases h with h | h
    · obtain ⟨y, hy, l⟩ := e.le id _ h
      rcases l with rfl | rfl | ⟨_, _, _, _, _, hx, _, _⟩
      · exact .inl hy
      · exact .inr hy
      · simp at hx
    · obtain ⟨y, hy, l⟩ := e.le id _ h
      rcases l with rfl | rfl | ⟨_, _, _, _, _, hx, _, _⟩
      · exact .inr hy
      · exact .inr hy
      · simp at hx
  | rp id v i off b n h =>
    refine .rp id v i off b n ?_
    rcases h with h | ⟨x, h, hx⟩
    · obtain ⟨y, hy, l⟩ := e.le id _ h
      rcases l with rfl | rfl | ⟨_, _, _, _, _, hx, rfl, hlt⟩
      · exact .inl hy
      · exact .inr ⟨_, hy, .inl rfl⟩
      · simp only [LB.row.injEq] at hx
        obtain ⟨rfl, rfl, rfl⟩ := hx
        exact .inr ⟨_, hy, .inr ⟨_, _, _, rfl, hlt⟩⟩
    · obtain ⟨y, hy, l⟩ := e.le id _ h
      exact .inr ⟨y, hy, hx.le l⟩
  | ms id v lo len cap b n h hcap hlo =>
    refine .ms id v lo len cap b n ?_ hcap hlo
    rcases h with ⟨h, hs⟩ | ⟨x, h, hx⟩
    · obtain ⟨y, hy, l⟩ := e.le id _ h
      rcases l with rfl | rfl | ⟨_, _, _, _, _, hx, rfl, hlt⟩
      · refine .inl ⟨hy, ?_⟩
        by_cases hb : b < w.heap.size
        · rw [e.sz b hb]; exact hs
        · have : szOf w b = 0 := by simp [szOf, Array.getElem?_eq_none (Nat.le_of_not_lt hb)]
          omega
      · exact .inr ⟨_, hy, .inl rfl⟩
      · simp only [LB.row.injEq] at hx
        obtain ⟨rfl, rfl, rfl⟩ := hx
        exact .inr ⟨_, hy, .inr ⟨_, _, _, rfl, hlt⟩⟩
    · obtain ⟨y, hy, l⟩ := e.le id _ h
      exact .inr ⟨y, hy, hx.le l⟩
  | ms0 id v n a h =>
    refine .ms0 id v n a ?_
    rcases h with h | ⟨x, h, hx⟩
    · obtain ⟨y, hy, l⟩ := e.le id _ h
      rcases l with rfl | rfl | ⟨_, _, _, _, _, hx, rfl, hlt⟩
      · exact .inl hy
      · exact .inr ⟨_, hy, .inl rfl⟩
      · simp only [LB.row.injEq] at hx
        obtain ⟨rfl, rfl, rfl⟩ := hx
        exact .inr ⟨_, hy, .inr ⟨_, _, _, rfl, hlt⟩⟩
    · obtain ⟨y, hy, l⟩ := e.le id _ h
      exact .inr ⟨y, hy, hx.le l⟩
  | msE id v lo b off n h hlo =>
    refine .msE id v lo b off n ?_ hlo
    rcases h with h | ⟨x, h, hx⟩
    · obtain ⟨y, hy, l⟩ := e.le id _ h
      rcases l with rfl | rfl | ⟨_, _, _, _, _, hx, rfl, hlt⟩
      · exact .inl hy
      · exact .inr ⟨_, hy, .inl rfl⟩
      · simp only [LB.row.injEq] at hx
        obtain ⟨rfl, rfl, rfl⟩ := hx
        exact .inr ⟨_, hy, .inr ⟨_, _, _, rfl, hlt⟩⟩
    · obtain ⟨y, hy, l⟩ := e.le id _ h
      exact .inr ⟨y, hy, hx.le l⟩

/-- What is below the world's end and not written is as it was. -/
structure Frame (w w' : World) (F : Nat → Prop) : Prop where
  size : w.heap.size ≤ w'.heap.size
  same : ∀ b, b < w.heap.size → ¬ F b → w'.heap[b]? = w.heap[b]?
  sz : ∀ b, b < w.heap.size → szOf w' b = szOf w b
  os : w'.os = w.os
  tape : w'.tape = w.tape
  output : w'.output = w.output

theorem Frame.refl (w : World) (F : Nat → Prop) : Frame w w F := ⟨Nat.le_refl _, fun _ _ _ => rfl, fun _ _ => rfl, rfl, rfl, rfl⟩

theorem Frame.trans {a b c : World} {F G : Nat → Prop} (h : Frame a b F) (k : Frame b c G) (hg : ∀ x, x < a.heap.size → G x → F x) : Frame a c F where
  size := Nat.le_trans h.size k.size
  same x hx hf := by rw [k.same x (Nat.lt_of_lt_of_le hx h.size) (fun g => hf (hg x hx g)), h.same x hx hf]
  sz x hx := by rw [k.sz x (Nat.lt_of_lt_of_le hx h.size), h.sz x hx]
  os := k.os.trans h.os
  tape := k.tape.trans h.tape
  output := k.output.trans h.output

/-- No cell of the block is marked as one that must not be written. -/
def NoMark (z : Nat × Nat) (n : Nat) : Prop := ∀ o, o < n → ¬ (z.1 ≤ o ∧ o < z.2)

/-- What a block of the model reads as. -/
def BlkRep (w : World) (L : List LB) (Z : Nat → Prop) : LB → Blk → Prop
  | .dead, .dead => True
  | .cell b, .cells cs => ∃ C t, w.heap[b]? = some (.cells C t (0, 0)) ∧ C.size = cs.length ∧ ∀ j, j < cs.length → RepV w L Z (nth cs j) (C.getD j Go.undef)
  | .row none v n, .row v' k l => v = v' ∧ n = wid k ∧ l = []
  | .row (some b) v n, .row v' k l => v = v' ∧ n = wid k ∧ l.length ≤ maxLen ∧ ∃ C t z, w.heap[b]? = some (.cells C t z) ∧ NoMark z C.size ∧
      l.length * wid k ≤ C.size ∧ ∀ i x, l[i]? = some x → ∀ j, j < wid k → RepV w L Z (nth (enc k x) j) (C.getD (i * wid k + j) Go.undef)
  | _, _ => False

/-- What must not be read: blocks of others, and those that this call writes. -/
def ZZ (X : Nat → Prop) (L : List LB) : Nat → Prop := fun b => X b ∨ Owns L b

/-- The memory of the small machine stands for the model's. -/
structure SimM (w0 : World) (F0 X0 : Nat → Prop) (m : List Blk) (L : List LB) (w : World) : Prop where
  ll : L.length = m.length
  blk : ∀ (i : Nat) (x : LB), L[i]? = some x → BlkRep w L (ZZ X0 L) x (bnth m i)
  inj : ∀ (i j : Nat) (x y : LB) (b : Nat), L[i]? = some x → L[j]? = some y → x.owns b → y.owns b → i = j
  own : ∀ (i : Nat) (x : LB) (b : Nat), L[i]? = some x → x.owns b → (F0 b ∨ w0.heap.size ≤ b)
  nx : ∀ (i : Nat) (x : LB) (b : Nat), L[i]? = some x → x.owns b → ¬ X0 b
  fr : Frame w0 w F0
  xl : ∀ b, X0 b → b < w.heap.size

end Go.Proofs.Ytnghlmogcbmlfaa
