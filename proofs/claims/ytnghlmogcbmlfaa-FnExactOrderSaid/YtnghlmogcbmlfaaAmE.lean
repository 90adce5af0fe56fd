/- The small machine's plain instructions tell what the model's operations tell: those that turn no memory. -/
import Derived.Test.YtnghlmogcbmlfaaAmD
import Derived.Test.YtnghlmogcbmlfaaAmR
namespace Go.Proofs.Ytnghlmogcbmlfaa
set_option linter.unusedVariables false
set_option linter.unusedSimpArgs false

theorem mapO_some {α β : Type} {f : α → Option β} {l : List α} {r : List β} (h : mapO f l = some r) :
    r.length = l.length ∧ ∀ (i : Nat) (x : α), l[i]? = some x → ∃ y, r[i]? = some y ∧ f x = some y := by
  induction l generalizing r with
  | nil =>
    obtain rfl : r = [] := by simpa [mapO] using h.symm
    exact ⟨rfl, fun i x hx => by simp at hx⟩
  | cons a l ih =>
    simp only [mapO] at h
    cases ha : f a with
    | none => simp [ha] at h
    | some y =>
      cases hl : mapO f l with
      | none => simp [ha, hl] at h
      | some q =>
        simp only [ha, hl, Option.some.injEq] at h
        subst h
        obtain ⟨h1, h2⟩ := ih hl
        refine ⟨by simp [h1], fun i x hx => ?_⟩
        cases i with
        | zero =>
          simp only [List.getElem?_cons_zero, Option.some.injEq] at hx
          subst hx
          exact ⟨y, rfl, ha⟩
        | succ i => exact h2 i x (by simpa using hx)

theorem nth_of {l : List AV} {i : Nat} {x : AV} (h : l[i]? = some x) : nth l i = x := by
  obtain ⟨hi, hx⟩ := List.getElem?_eq_some_iff.1 h
  rw [nth_eq hi, hx]

theorem getD_of {a : Array Value} {i : Nat} {x : Value} (h : a[i]? = some x) : a.getD i Go.undef = x := by
  simp [Array.getD_eq_getD_getElem?, h]

theorem getD_ge {a : Array Value} {i : Nat} (h : a.size ≤ i) : a.getD i Go.undef = Go.undef := by
  simp [Array.getD_eq_getD_getElem?, Array.getElem?_eq_none h]

section
variable {w : World} {L : List LB} {Z : Nat → Prop}

theorem constA_sound : ∀ (d : Nat) (v : Value) (a : AV), constA d v = some a → RepV w L Z a v := by
  intro d
  induction d with
  | zero => intro v a h; simp [constA] at h
  | succ d ih =>
    intro v a h
    cases v with
    | bool b => simp only [constA, Option.some.injEq] at h; subst h; exact .bool b
    | int k n =>
      simp only [constA] at h
      split at h
      · rename_i hk
        simp only [Option.some.injEq] at h
        subst h
        simp only [inKB, Bool.and_eq_true, decide_eq_true_eq] at hk
        exact .int k n hk
      · simp at h
    | float k b => simp [constA] at h
    | complex k a b => simp [constA] at h
    | string s =>
      simp only [constA] at h
      split at h
      · rename_i hk
        simp only [Option.some.injEq] at h
        subst h
        exact .str s (by unfold maxLen; omega)
      · simp at h
    | pointer p =>
      cases p with
      | none => simp only [constA, Option.some.injEq] at h; subst h; exact .junk _ rfl
      | some p => simp [constA] at h
    | slice p n c =>
      cases p with
      | some p => simp [constA] at h
      | none =>
        cases n with
        | succ n => simp [constA] at h
        | zero => cases c with
          | succ c => simp [constA] at h
          | zero => simp only [constA, Option.some.injEq] at h; subst h; exact .nil none
    | map r => simp [constA] at h
    | chan r => simp [constA] at h
    | func fn fst cap =>
      cases fn with
      | func f =>
        simp only [constA] at h
        split at h
        · rename_i hk
          simp only [Option.some.injEq] at h
          subst h
          simp only [Bool.and_eq_true, Array.isEmpty_iff] at hk
          obtain ⟨rfl, rfl⟩ := hk
          exact .fn f [] #[] rfl (fun j hj => by simp at hj)
        · simp at h
      | method n => simp [constA] at h
      | methodOf t n => simp [constA] at h
      | via t p f q => simp [constA] at h
      | yield l => simp [constA] at h
    | nilFunc => simp only [constA, Option.some.injEq] at h; subst h; exact .junk _ rfl
    | iface t x => simp [constA] at h
    | nilIface => simp only [constA, Option.some.injEq] at h; subst h; exact .err0
    | agg cs =>
      simp only [constA] at h
      cases hm : mapO (constA d) cs.toList with
      | none => simp [hm] at h
      | some l =>
        simp only [hm, Option.some.injEq] at h
        subst h
        obtain ⟨h1, h2⟩ := mapO_some hm
        refine .agg l cs (by simpa using h1.symm) (fun j hj => ?_)
        have hj' : j < cs.toList.length := by omega
        obtain ⟨y, hy, hf⟩ := h2 j (cs.toList[j]) (List.getElem?_eq_getElem hj')
        rw [nth_of hy]
        have hg : cs.getD j Go.undef = cs.toList[j] := getD_of (by rw [← Array.getElem?_toList]; exact List.getElem?_eq_getElem hj')
        rw [hg]
        exact ih _ _ hf
    | tuple vs => simp [constA] at h

theorem cells_rel {v : AV} {V : Value} (h : RepV w L Z v V) :
    V.cells.size = (cellsOf v).length ∧ ∀ j, j < (cellsOf v).length → RepV w L Z (nth (cellsOf v) j) (V.cells.getD j Go.undef) := by
  have one : ∀ (u : AV) (U : Value), cellsOf u = [u] → U.cells = #[U] → RepV w L Z u U →
      U.cells.size = (cellsOf u).length ∧ ∀ j, j < (cellsOf u).length → RepV w L Z (nth (cellsOf u) j) (U.cells.getD j Go.undef) := by
    intro u U h1 h2 h3
    rw [h1, h2]
    refine ⟨rfl, fun j hj => ?_⟩
    obtain rfl : j = 0 := by simpa using hj
    exact h3
  cases h with
  | agg cs Cs hs hr => exact ⟨hs, hr⟩
  | junk V h => exact one _ _ rfl (by cases V <;> first | rfl | simp [Value.oneCell'] at h) (.junk V h)
  | undef => exact one _ _ rfl rfl .undef
  | bool b => exact one _ _ rfl rfl (.bool b)
  | int k n h => exact one _ _ rfl rfl (.int k n h)
  | str s h => exact one _ _ rfl rfl (.str s h)
  | nil a => exact one _ _ rfl rfl (.nil a)
  | err0 => exact one _ _ rfl rfl .err0
  | err1 t x => exact one _ _ rfl rfl (.err1 t x)
  | sl k l a cap b off C h1 h2 h3 h4 h5 => exact one _ _ rfl rfl (.sl k l a cap b off C h1 h2 h3 h4 h5)
  | tup cs Cs hs hr => exact one _ _ rfl rfl (.tup cs Cs hs hr)
  | fn f cs Cs hs hr => exact one _ _ rfl rfl (.fn f cs Cs hs hr)
  | ip cs off b o C h1 h2 h3 h4 => exact one _ _ rfl rfl (.ip cs off b o C h1 h2 h3 h4)
  | ptr id off b h => exact one _ _ rfl rfl (.ptr id off b h)
  | rp id v i off b n h => exact one _ _ rfl rfl (.rp id v i off b n h)
  | ms id v lo len cap b n h h1 h2 => exact one _ _ rfl rfl (.ms id v lo len cap b n h h1 h2)
  | ms0 id v n a h => exact one _ _ rfl rfl (.ms0 id v n a h)
  | msE id v lo b off n h hlo => exact one _ _ rfl rfl (.msE id v lo b off n h hlo)

/-- Each of the values is of one cell. -/
theorem isCells_nth {l : List AV} (h : isCells l = true) {j : Nat} (hj : j < l.length) : isCells [nth l j] = true := by
  induction l generalizing j with
  | nil => simp at hj
  | cons v r ih =>
    cases j with
    | zero => cases v <;> simp_all [isCells, nth]
    | succ j =>
      refine ih ?_ (by simpa using hj)
      cases v <;> simp_all [isCells]

theorem oneCell_of {v : AV} {V : Value} (h : RepV w L Z v V) (hc : isCells [v] = true) : V.oneCell' = true := by
  cases h <;> first | rfl | assumption | simp [isCells] at hc

end

section ops
variable {P : Program} {w0 : World} {F0 X0 : Nat → Prop} {s : St} {L : List LB} {a : Act} {w : World} {o : Oper}

theorem resO_sound (hs : Sim w0 F0 X0 s L a w) {x : Operand} {y : O} (h : resO x = some y) : RepV w L (ZZ X0 L) (y.get s) (a.eval x) := by
  cases x with
  | tmp t =>
    simp only [resO, Option.some.injEq] at h
    subst h
    show RepV w L (ZZ X0 L) (nth s.t t) (a.tmps.getD t Go.undef)
    by_cases ht : t < s.t.length
    · exact hs.tv t ht
    · have hge : s.t.length ≤ t := Nat.le_of_not_lt ht
      rw [nth_ge hge, getD_ge (a := a.tmps) (i := t) (by rw [hs.tl]; exact hge)]
      exact .undef
  | const v =>
    simp only [resO] at h
    cases hc : constA 3 v with
    | none => simp [hc] at h
    | some c =>
      simp only [hc, Option.some.injEq] at h
      subst h
      exact constA_sound 3 v c hc
  | global g => simp [resO] at h
  | func f =>
    simp only [resO, Option.some.injEq] at h
    subst h
    exact .fn f [] #[] rfl (fun j hj => by simp at hj)

theorem mapO_resO (hs : Sim w0 F0 X0 s L a w) {xs : List Operand} {ys : List O} (h : mapO resO xs = some ys) :
    ys.length = xs.length ∧ ∀ i, i < xs.length → RepV w L (ZZ X0 L) (nth (ys.map (O.get s)) i) ((xs.map a.eval)[i]?.getD Go.undef) := by
  obtain ⟨h1, h2⟩ := mapO_some h
  refine ⟨h1, fun i hi => ?_⟩
  obtain ⟨y, hy, hf⟩ := h2 i xs[i] (List.getElem?_eq_getElem hi)
  have e1 : nth (ys.map (O.get s)) i = y.get s := nth_of (by simp [hy])
  rw [e1]
  simp only [List.getElem?_map, List.getElem?_eq_getElem hi, Option.map_some, Option.getD_some]
  exact resO_sound hs hf

/-- The operation tells a value, and turns nothing. -/
def Tells (P : Program) (o : Oper) (a : Act) (w : World) (V : Value) : Prop := (execOp a.eval o).run P w = .ok (.value V) w

theorem tells_move {x : Operand} (h : o.op = .move x ∨ o.op = .assign x) : Tells P o a w (a.eval x) := by
  unfold Tells
  rcases h with h | h <;> simp [execOp, h]

theorem wrap_inK (k : IntKind) (n : Int) : InK k (k.wrap n) := by
  unfold InK
  cases k <;> simp [IntKind.wrap, IntKind.min, IntKind.max, IntKind.signed, IntKind.bits] <;> (try split) <;> omega

end ops

end Go.Proofs.Ytnghlmogcbmlfaa
