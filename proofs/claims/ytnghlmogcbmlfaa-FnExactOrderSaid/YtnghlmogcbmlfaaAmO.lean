/- What grows: append, and copy: the small machine and the model do alike. -/
import Derived.Test.YtnghlmogcbmlfaaAmN
namespace Go.Proofs.Ytnghlmogcbmlfaa
set_option linter.unusedVariables false
set_option linter.unusedSimpArgs false

section ops
variable {P : Program} {kt : KT} {w0 : World} {F0 X0 : Nat → Prop} {m : List Blk} {L : List LB} {a : Act} {w : World} {o : Oper} {Z : Nat → Prop}

/-- What is appended: its cells, and what they read as. -/
structure Adds (P : Program) (w : World) (L : List LB) (Z : Nat → Prop) (tx : TypeId) (k : Kd) (V : Value) (ys : List (T k)) (news : List Value) : Prop where
  src : Src P (wid k) tx V ys.length news w
  rep : ∀ i y, ys[i]? = some y → ∀ j, j < wid k → RepV w L Z (nth (enc k y) j) (news[i * wid k + j]?.getD Go.undef)

theorem adds_slice {tx e : TypeId} {k : Kd} {V : Value} {ys : List (T k)} {p : Option Addr} {cap b off : Nat} {C : Nat → Value} (hk : P.underlying tx = some (.slice e)) (h : Reads w L Z k ys V p cap b off C) :
    ∃ news, Adds P w L Z tx k V ys news := by
  by_cases hl : ys = []
  · subst hl
    refine ⟨[], ?_, fun i y hy => by simp at hy⟩
    rw [h.val]
    cases p with
    | none => exact Src.ofNil w hk cap
    | some A => exact Src.ofSlice w hk A 0 cap [] (by simp) (fun j u hu => by simp at hu) (fun u hu => by simp at hu)
  · have hp := h.at_ hl
    subst hp
    refine ⟨(List.range (ys.length * wid k)).map C, ?_, fun i y hy j hj => ?_⟩
    · rw [h.val]
      refine Src.ofSlice w hk ⟨b, off, none⟩ ys.length cap _ (by simp) (fun j u hu => ?_) (fun u hu => ?_)
      · simp only [List.getElem?_map] at hu
        cases hj : (List.range (ys.length * wid k))[j]? with
        | none => simp [hj] at hu
        | some q =>
          obtain ⟨hj1, hj2⟩ := List.getElem?_eq_some_iff.1 hj
          simp only [List.length_range] at hj1
          simp only [List.getElem_range] at hj2
          subst hj2
          simp only [hj, Option.map_some, Option.some.injEq] at hu
          subst hu
          rw [Addr.add_lit]
          exact h.cell j hj1
      · obtain ⟨q, hq, rfl⟩ := List.mem_map.1 hu
        have hq' : q < ys.length * wid k := List.mem_range.1 hq
        have hw := wid_pos k
        have hi : q / wid k < ys.length := (Nat.div_lt_iff_lt_mul hw).2 hq'
        have := h.rep (q / wid k) ys[q / wid k] (List.getElem?_eq_getElem hi) (q % wid k) (Nat.mod_lt _ hw)
        have e : q / wid k * wid k + q % wid k = q := by rw [Nat.mul_comm]; exact Nat.div_add_mod q (wid k)
        rw [e] at this
        exact oneCell_of this (isCells_nth (enc_isCells k _) (by rw [enc_length]; exact Nat.mod_lt _ hw))
    · have hb := row_bound hy hj (Nat.le_refl _)
      simpa [hb] using h.rep i y hy j hj

theorem adds_string {tx : TypeId} {b : ByteArray} (hk : P.underlying tx = some .string) : Adds P w L Z tx .u8 (.string b) (bytesOf b) (byteCells b) := by
  have hl : (bytesOf b).length = b.size := by simp [bytesOf]
  refine ⟨by rw [hl]; exact Src.ofString w hk b, fun i y hy j hj => ?_⟩
  obtain rfl : j = 0 := by simp [wid] at hj; omega
  have : (byteCells b)[i * wid .u8 + 0]? = some (.int .u8 y.toNat) := by
    simp only [wid, Nat.mul_one, Nat.add_zero, byteCells, List.getElem?_map]
    have hy' : b.data.toList[i]? = some y := hy
    rw [hy']
    rfl
  rw [this]
  refine .int _ _ ?_
  have := y.toNat_lt
  have e1 : IntKind.u8.min = 0 := by decide
  have e2 : IntKind.u8.max = 255 := by decide
  exact ⟨by omega, by omega⟩

/-- The cells of a row that grows by a new block. -/
theorem grown_cells {k : Kd} {l ys : List (T k)} {olds news : List Value} {z : Value} {n : Nat} (hol : olds.length = l.length * wid k) (hnl : news.length = ys.length * wid k) {C : Array Value}
    (hC : C = (olds ++ news).toArray ++ Builtin.zeroCells z.cells n)
    (ho : ∀ i x, l[i]? = some x → ∀ j, j < wid k → RepV w L Z (nth (enc k x) j) (olds[i * wid k + j]?.getD Go.undef))
    (hn : ∀ i y, ys[i]? = some y → ∀ j, j < wid k → RepV w L Z (nth (enc k y) j) (news[i * wid k + j]?.getD Go.undef)) :
    ∀ i x, (l ++ ys)[i]? = some x → ∀ j, j < wid k → RepV w L Z (nth (enc k x) j) (C.getD (i * wid k + j) Go.undef) := by
  intro i x hx j hj
  have hget : ∀ q, q < (olds ++ news).length → C.getD q Go.undef = (olds ++ news)[q]?.getD Go.undef := by
    intro q hq
    subst hC
    simp only [Array.getD_eq_getD_getElem?]
    rw [Array.getElem?_append_left (by simpa using hq)]
    simp
  by_cases hi : i < l.length
  · rw [List.getElem?_append_left hi] at hx
    have hb : i * wid k + j < olds.length := by rw [hol]; exact row_bound hx hj (Nat.le_refl _)
    rw [hget _ (by simp; omega), List.getElem?_append_left hb]
    exact ho i x hx j hj
  · rw [List.getElem?_append_right (by omega)] at hx
    have hb := row_bound hx hj (Nat.le_refl _)
    have e : i * wid k + j = olds.length + ((i - l.length) * wid k + j) := by
      have : i * wid k = l.length * wid k + (i - l.length) * wid k := by rw [← Nat.add_mul]; congr 1; omega
      rw [hol]
      omega
    rw [e, hget _ (by simp; omega), List.getElem?_append_right (by omega), Nat.add_sub_cancel_left]
    exact hn _ x hx j hj

theorem app_sound (hs : SimM w0 F0 X0 m L w) {t tx ty e : TypeId} {k : Kd} {x y : Operand} {c : Call} {X v : AV} {ys : List (T k)} {news : List Value} {m' : List Blk}
    (h : o.op = .call c) (hc : c.callee = .builtin .append) (ha : c.args = #[x, y]) (hat : c.argTypes = #[t, tx])
    (ht : P.underlying t = some (.slice e)) (hk : kdT P kt e = some k) (hx : RepV w L (ZZ X0 L) X (a.eval x)) (hy : Adds P w L (ZZ X0 L) tx k (a.eval y) ys news) (hv : appA k X ys m = some (v, m')) :
    ∃ V w' L', Does1 P o a w V w' ∧ SimM w0 F0 X0 m' L' w' ∧ Ext w L (ZZ X0 L) w' L' (ZZ X0 L') ∧ RepV w' L' (ZZ X0 L') v V := by
  obtain ⟨i, z, hi, hsz, hby, hz, hzs, _⟩ := kdT_some hk
  have fin : ∀ V w', (Builtin.append_ #[t, tx] o.type #[a.eval x, a.eval y]).run P w = .ok V w' → Does1 P o a w V w' := by
    intro V w' hV
    left
    simp [execOp, h, resolve, hc, ha, hat, invoke, builtin, hV]
  have src : Src P i.size tx (a.eval y) ys.length news w := by rw [hsz]; exact hy.src
  have hnl : news.length = ys.length * wid k := hy.src.newsLen
  have hmost : (most : Nat) = 1099511627776 := rfl
  have fits : ∀ old need, old < need → need ≤ most → Builtin.nextslicecap need old * i.bytes ≤ 281474976710656 := by
    intro old need h1 h2
    refine growslice_fits h1 ?_
    have : need * i.bytes ≤ most * 128 := Nat.mul_le_mul h2 hby
    rw [hmost] at this
    omega
  -- a new block
  have grow : ∀ (base : Option Addr) (sLen sCap : Nat) (olds : List Value) (l0 : List (T k)), sLen = l0.length → olds.length = l0.length * wid k → (Builtin.firstCells i.size sLen (.slice base sLen sCap)).run P w.drew = .ok olds.toArray w.drew →
      sCap < sLen + ys.length → sLen + ys.length ≤ most → (∀ i x, l0[i]? = some x → ∀ j, j < wid k → RepV w L (ZZ X0 L) (nth (enc k x) j) (olds[i * wid k + j]?.getD Go.undef)) →
      a.eval x = .slice base sLen sCap → ∃ C : Array Value, ∃ cap : Nat, Does1 P o a w (.slice (some ⟨w.heap.size, 0, none⟩) (sLen + ys.length) cap) (w.drew.alloc (.cells C e)) ∧ C.size = cap * wid k ∧ sLen + ys.length ≤ cap ∧ cap ≤ maxLen ∧
        ∀ i x, (l0 ++ ys)[i]? = some x → ∀ j, j < wid k → RepV w L (ZZ X0 L) (nth (enc k x) j) (C.getD (i * wid k + j) Go.undef) := by
    intro base sLen sCap olds l0 h0 hol hold hg hm2 hrep hex
    have hrun := run_append_grow_src (P := P) w t tx o.type e i z ht hi hz base sLen sCap olds hold (a.eval y) ys.length news src hg (by rw [hmost] at hm2; omega) (fits _ _ hg hm2)
    have hcap := grownCap_ge w (sLen + ys.length) sCap e
    have hcap2 := grownCap_le_maxLen w (sLen + ys.length) sCap e (by unfold maxLen; rw [hmost] at hm2; omega)
    refine ⟨_, grownCap w (sLen + ys.length) sCap e, fin _ _ (by rw [hex]; exact hrun), ?_, hcap, hcap2, grown_cells hol hnl rfl hrep hy.rep⟩
    have hz2 : (Builtin.zeroCells z.cells (grownCap w (sLen + ys.length) sCap e - (sLen + ys.length))).size = (grownCap w (sLen + ys.length) sCap e - (sLen + ys.length)) * wid k := by rw [size_zeroCells, hzs]
    simp only [Array.size_append, hz2]
    simp only [List.size_toArray, List.length_append, hol, hnl]
    rw [← h0, ← Nat.add_mul, ← Nat.add_mul]
    congr 1
    omega
  cases X <;> simp only [appA] at hv <;> try (simp at hv; done)
  case nil =>
    split at hv
    · rename_i hle
      simp only [Option.some.injEq, Prod.mk.injEq] at hv
      obtain ⟨rfl, rfl⟩ := hv
      obtain ⟨p, ex⟩ := hx.nil_inv
      by_cases h0 : ys = []
      · subst h0
        have hnews : news = [] := List.length_eq_zero_iff.1 (by simpa using hnl)
        subst hnews
        have hrun := run_append_nothing (P := P) w t tx o.type e i ht hi p 0 0 (Nat.le_refl _) (a.eval y) src
        refine ⟨_, w, L ++ [.row none 0 (wid k)], fin _ _ (by rw [ex]; exact hrun), hs.push (y := .row none 0 (wid k)) (β := .row 0 k []) (Nat.le_refl _) (fun _ _ => rfl) (fun b hb => False.elim hb) rfl rfl rfl ⟨rfl, rfl, rfl⟩, SimM.ext_push (y := .row none 0 (wid k)) (Nat.le_refl _) (fun _ _ => rfl) (fun b hb => False.elim hb), ?_⟩
        exact .ms0 _ 0 (wid k) p (.inl (by rw [← hs.ll]; simp))
      · have hpos : 0 < ys.length := List.length_pos_iff.2 h0
        obtain ⟨C, cap, d1, d2, d3, d4, d5⟩ := grow p 0 0 [] [] rfl (by simp) (by cases p <;> simp [Builtin.firstCells, loadCells, loadCellsFrom]) (by omega) (by omega) (fun i x hx => by simp at hx) ex
        obtain ⟨L', g1, g2, g3⟩ := push_row (L := L) (m := m) (X0 := X0) hs (w1 := w.drew) (k := k) (l := ys) (C := C) (t := e) (z := (0, 0)) (cap := cap) rfl rfl rfl rfl (by omega) ⟨by omega, d4⟩ (NoMark.zero _) (by simpa using d5)
        exact ⟨_, _, _, by simpa using d1, g1, g2, g3⟩
    · simp at hv
  case ms id v0 lo len =>
    cases hm : bnth m id with
    | dead => simp [hm] at hv
    | cells cs => simp [hm] at hv
    | row v' k' l =>
      simp only [hm] at hv
      cases he : eqN v0 v' with
      | false => simp [he] at hv
      | true =>
        obtain rfl := eqN_iff.1 he
        simp only [he] at hv
        split at hv
        · rename_i hcond
          cases hcast : castK k k' l with
          | none => simp [hcast] at hv
          | some l2 =>
            obtain ⟨ek, el⟩ := castK_some hcast
            subst ek
            obtain rfl : l = l2 := el.symm
            simp only [hcast, Option.some.injEq, Prod.mk.injEq] at hv
            obtain ⟨rfl, rfl⟩ := hv
            obtain ⟨rfl, hlen, hmost2⟩ := hcond
            have htl : (l.take len).length = len := by simp; omega
            have hall : (l.take len ++ ys).length = len + ys.length := by simp; omega
            rw [hall]
            have vlt : v0 < v0 + 1 := Nat.lt_succ_self _
            -- what the row becomes in a new block
            have renew : ∀ (x0 : LB) (ob : Option Nat), ys ≠ [] → L[id]? = some x0 → x0 = .row ob v0 (wid k) → ∀ (C : Array Value) (cap : Nat), C.size = cap * wid k → len + ys.length ≤ cap → cap ≤ maxLen →
                (∀ i x, (l.take len ++ ys)[i]? = some x → ∀ j, j < wid k → RepV w L (ZZ X0 L) (nth (enc k x) j) (C.getD (i * wid k + j) Go.undef)) →
                SimM w0 F0 X0 (setB m id (.row (v0 + 1) k (l.take len ++ ys))) (L.set id (.row (some w.heap.size) (v0 + 1) (wid k))) (w.drew.alloc (.cells C e)) ∧
                  Ext w L (ZZ X0 L) (w.drew.alloc (.cells C e)) (L.set id (.row (some w.heap.size) (v0 + 1) (wid k))) (ZZ X0 (L.set id (.row (some w.heap.size) (v0 + 1) (wid k)))) ∧
                  RepV (w.drew.alloc (.cells C e)) (L.set id (.row (some w.heap.size) (v0 + 1) (wid k))) (ZZ X0 (L.set id (.row (some w.heap.size) (v0 + 1) (wid k)))) (.ms id (v0 + 1) 0 (len + ys.length)) (.slice (some ⟨w.heap.size, 0, none⟩) (len + ys.length) cap) := by
              intro x0 ob hys hL hx0 C cap hC hc1 hc2 hrep
              have hyl : 0 < ys.length := List.length_pos_iff.2 hys
              have hle : LE x0 (.row (some w.heap.size) (v0 + 1) (wid k)) := .inr (.inr ⟨ob, v0, wid k, _, _, hx0, rfl, vlt⟩)
              have hsame : ∀ b, b < w.heap.size → (w.drew.alloc (.cells C e)).heap[b]? = w.heap[b]? := fun b hb => heap_alloc_old w.drew _ b hb
              have hnew : (w.drew.alloc (.cells C e)).heap[w.heap.size]? = some (.cells C e) := heap_alloc_new w.drew _
              have hsize : w.heap.size ≤ (w.drew.alloc (.cells C e)).heap.size := by simp
              have hszOf : ∀ b, b < w.heap.size → szOf (w.drew.alloc (.cells C e)) b = szOf w b := fun b hb => by simp only [szOf, hsame b hb]
              have hown : ∀ b, (LB.row (some w.heap.size) (v0 + 1) (wid k)).owns b → x0.owns b ∨ w.heap.size ≤ b := by
                intro b hb
                have : w.heap.size = b := hb
                exact .inr (by omega)
              have ex2 := hs.ext_upd (w' := w.drew.alloc (.cells C e)) hL hle hsize (fun b hb _ => hsame b hb) hszOf hown
              refine ⟨hs.upd hL hle hsize (fun b hb _ => hsame b hb) hszOf hown rfl rfl rfl ⟨rfl, rfl, ?_, C, e, (0, 0), hnew, NoMark.zero _, ?_, fun i x hx j hj => (hrep i x hx j hj).ext ex2⟩, ex2, ?_⟩
              · simp only [List.length_append, htl]; unfold maxLen; rw [hmost] at hmost2; omega
              · simp only [List.length_append, htl]
                rw [hC]
                exact Nat.mul_le_mul_right _ hc1
              · have := RepV.ms (w := w.drew.alloc (.cells C e)) (L := L.set id (.row (some w.heap.size) (v0 + 1) (wid k))) (Z := ZZ X0 (L.set id (.row (some w.heap.size) (v0 + 1) (wid k)))) id (v0 + 1) 0 (len + ys.length) cap w.heap.size (wid k)
                  (.inl ⟨getElem?_set_eq' hL, by simp only [szOf, hnew, hC]; simp⟩) ⟨hc1, hc2⟩ (fun _ => by omega)
                simpa using this
            -- the row stays where it is
            have stay : ∀ (x0 : LB) (ob : Option Nat), L[id]? = some x0 → x0 = .row ob v0 (wid k) → ys = [] →
                SimM w0 F0 X0 (setB m id (.row (v0 + 1) k (l.take len ++ ys))) (L.set id (.row ob (v0 + 1) (wid k))) w ∧ Ext w L (ZZ X0 L) w (L.set id (.row ob (v0 + 1) (wid k))) (ZZ X0 (L.set id (.row ob (v0 + 1) (wid k)))) := by
              intro x0 ob hL hx0 hys
              subst hx0 hys
              have hle : LE (.row ob v0 (wid k)) (.row ob (v0 + 1) (wid k)) := .inr (.inr ⟨ob, v0, wid k, _, _, rfl, rfl, vlt⟩)
              have hown : ∀ b, (LB.row ob (v0 + 1) (wid k)).owns b → (LB.row ob v0 (wid k)).owns b ∨ w.heap.size ≤ b := by
                intro b hb
                left
                cases ob <;> exact hb
              have ex2 := hs.ext_upd (w' := w) hL hle (Nat.le_refl _) (fun _ _ _ => rfl) (fun _ _ => rfl) hown
              refine ⟨hs.upd hL hle (Nat.le_refl _) (fun _ _ _ => rfl) (fun _ _ => rfl) hown rfl rfl rfl ?_, ex2⟩
              rw [List.append_nil]
              cases ob with
              | none =>
                obtain ⟨_, _, hl0⟩ := blk_row0 hs hL hm
                subst hl0
                exact ⟨rfl, rfl, by simp⟩
              | some b =>
                obtain ⟨_, _, hml, C, t1, z1, hh, hnm, hsz1, hr⟩ := blk_row hs hL hm
                refine ⟨rfl, rfl, by omega, C, t1, z1, hh, hnm, ?_, fun i x hx j hj => ?_⟩
                · rw [htl]
                  exact Nat.le_trans (Nat.mul_le_mul_right _ hlen) hsz1
                · rw [List.getElem?_take] at hx
                  split at hx
                  · exact (hr i x hx j hj).ext ex2
                  · simp at hx
            by_cases h0 : ys = []
            · have hnews : news = [] := List.length_eq_zero_iff.1 (by rw [hnl, h0]; simp)
              subst hnews
              rcases hx.ms_inv with ⟨b, n', cap, ex, hcap, hL⟩ | ⟨n', A, _, rfl, ex, hL⟩ | ⟨b, off, n', ⟨rfl, hlo⟩, ex, hL⟩
              · rcases hL with ⟨hL, hsz3⟩ | ⟨q, hL, hg⟩
                · obtain ⟨_, rfl, _⟩ := blk_row hs hL hm
                  obtain ⟨s1, e1⟩ := stay _ (some b) hL rfl h0
                  have hrun := run_append_nothing (P := P) w t tx o.type e i ht hi (some ⟨b, 0 * wid k, none⟩) len cap hcap.1 (a.eval y) (by rw [h0] at src; exact src)
                  refine ⟨_, w, _, fin _ _ (by rw [ex]; exact hrun), s1, e1, ?_⟩
                  rw [h0]
                  exact .ms id (v0 + 1) 0 len cap b (wid k) (.inl ⟨getElem?_set_eq' hL, hsz3⟩) ⟨hcap.1, hcap.2.1⟩ hcap.2.2
                · exact absurd rfl (blk_gone hs hL hg hm)
              · rcases hL with hL | ⟨q, hL, hg⟩
                · obtain ⟨_, rfl, _⟩ := blk_row0 hs hL hm
                  obtain ⟨s1, e1⟩ := stay _ none hL rfl h0
                  have hrun := run_append_nothing (P := P) w t tx o.type e i ht hi A 0 0 (Nat.le_refl _) (a.eval y) (by rw [h0] at src; exact src)
                  refine ⟨_, w, _, fin _ _ (by rw [ex]; exact hrun), s1, e1, ?_⟩
                  rw [h0]
                  exact .ms0 id (v0 + 1) (wid k) A (.inl (getElem?_set_eq' hL))
                · exact absurd rfl (blk_gone hs hL hg hm)
              · rcases hL with hL | ⟨q, hL, hg⟩
                · obtain ⟨_, rfl, _⟩ := blk_row hs hL hm
                  obtain ⟨s1, e1⟩ := stay _ (some b) hL rfl h0
                  have hrun := run_append_nothing (P := P) w t tx o.type e i ht hi (some ⟨b, off, none⟩) 0 0 (Nat.le_refl _) (a.eval y) (by rw [h0] at src; exact src)
                  refine ⟨_, w, _, fin _ _ (by rw [ex]; exact hrun), s1, e1, ?_⟩
                  rw [h0]
                  omega
                · exact absurd rfl (blk_gone hs hL hg hm)
            · have hpos : 0 < ys.length := List.length_pos_iff.2 h0
              rcases hx.ms_inv with ⟨b, n', cap, ex, hcap, hL⟩ | ⟨n', A, _, rfl, ex, hL⟩ | ⟨b, off, n', ⟨rfl, hlo⟩, ex, hL⟩
              · rcases hL with ⟨hL, hsz3⟩ | ⟨q, hL, hg⟩
                · obtain ⟨_, rfl, hml, C, t1, z1, hh, hnm, hsz1, hr⟩ := blk_row hs hL hm
                  have hCs : cap * wid k ≤ C.size := by
                    have : szOf w b = C.size := by simp [szOf, hh]
                    rw [this] at hsz3
                    simpa using hsz3
                  have hlen2 : len * wid k ≤ l.length * wid k := Nat.mul_le_mul_right _ hlen
                  by_cases hroom : len + ys.length ≤ cap
                  · -- there is room
                    have hfit : len * wid k + news.length ≤ C.size := by
                      rw [hnl, ← Nat.add_mul]
                      exact Nat.le_trans (Nat.mul_le_mul_right _ hroom) hCs
                    have hrun := run_append_room_src (P := P) w t tx o.type e i ht hi b (0 * wid k) len cap (a.eval y) ys.length news src hroom
                      (fun j hj => by rw [hsz, Nat.zero_mul, Nat.zero_add, cellGet hh (by omega)]; rfl)
                      (fun j hj => by
                        rw [hsz, Nat.zero_mul, Nat.zero_add]
                        simp only [World.frozen?, hh]
                        have := hnm (len * wid k + j) (by omega)
                        simp
                        omega)
                    rw [hsz] at hrun
                    simp only [Nat.zero_mul, Nat.zero_add] at hrun ex
                    obtain ⟨C', g1, g2, g3⟩ := setCells_heap b news (len * wid k) w C t1 z1 hh hfit
                    obtain ⟨q1, q2, q3⟩ := setCells_env b news (len * wid k) w
                    have hle : LE (.row (some b) v0 (wid k)) (.row (some b) (v0 + 1) (wid k)) := .inr (.inr ⟨some b, v0, wid k, _, _, rfl, rfl, vlt⟩)
                    have hsame : ∀ c, c < w.heap.size → ¬ (LB.row (some b) v0 (wid k)).owns c → (w.setCells b (len * wid k) news).heap[c]? = w.heap[c]? := fun c _ ho => setCells_other b _ _ w c (fun e => ho e.symm)
                    have hszOf : ∀ c, c < w.heap.size → szOf (w.setCells b (len * wid k) news) c = szOf w c := fun c _ => setCells_szOf hh hfit c
                    have hsize : w.heap.size ≤ (w.setCells b (len * wid k) news).heap.size := by rw [setCells_size]; exact Nat.le_refl _
                    have ex2 := hs.ext_upd (w' := w.setCells b (len * wid k) news) hL hle hsize hsame hszOf (fun c hc => .inl hc)
                    refine ⟨_, _, L.set id (.row (some b) (v0 + 1) (wid k)), fin _ _ (by rw [ex]; exact hrun), hs.upd hL hle hsize hsame hszOf (fun c hc => .inl hc) q1 q2 q3 ?_, ex2, ?_⟩
                    · refine ⟨rfl, rfl, by simp only [List.length_append, htl]; unfold maxLen; rw [hmost] at hmost2; omega, C', t1, z1, g1, by rw [g2]; exact hnm, ?_, fun i' x' hx' j hj => ?_⟩
                      · simp only [List.length_append, htl, g2]
                        exact Nat.le_trans (Nat.mul_le_mul_right _ hroom) hCs
                      · by_cases hi' : i' < len
                        · rw [List.getElem?_append_left (by rw [htl]; exact hi'), List.getElem?_take, if_pos hi'] at hx'
                          have hb := row_bound hx' hj hsz1
                          have hb2 : i' * wid k + j < len * wid k := by
                            have : (i' + 1) * wid k ≤ len * wid k := Nat.mul_le_mul_right _ hi'
                            rw [Nat.add_mul] at this
                            omega
                          rw [g3 _ hb, if_neg (by omega)]
                          exact (hr i' x' hx' j hj).ext ex2
                        · rw [List.getElem?_append_right (by rw [htl]; omega), htl] at hx'
                          have hb := row_bound hx' hj (Nat.le_refl _)
                          have ee : i' * wid k + j = len * wid k + ((i' - len) * wid k + j) := by
                            have : i' * wid k = len * wid k + (i' - len) * wid k := by rw [← Nat.add_mul]; congr 1; omega
                            omega
                          rw [ee, g3 _ (by omega), if_pos ⟨by omega, by omega⟩, Nat.add_sub_cancel_left]
                          exact (hy.rep _ x' hx' j hj).ext ex2
                    · have := RepV.ms (w := w.setCells b (len * wid k) news) (L := L.set id (.row (some b) (v0 + 1) (wid k))) (Z := ZZ X0 (L.set id (.row (some b) (v0 + 1) (wid k)))) id (v0 + 1) 0 (len + ys.length) cap b (wid k)
                        (.inl ⟨getElem?_set_eq' hL, by rw [setCells_szOf hh hfit]; exact hsz3⟩) ⟨hroom, hcap.2.1⟩ hcap.2.2
                      simpa using this
                  · -- there is none
                    have hold : ∀ w1 : World, w1.heap = w.heap → (Builtin.firstCells i.size len (.slice (some ⟨b, 0 * wid k, none⟩) len cap)).run P w1 = .ok (((List.range (len * wid k)).map fun j => C.getD j Go.undef)).toArray w1 := by
                      intro w1 hw1
                      refine run_firstCells_some w1 i.size len ⟨b, 0 * wid k, none⟩ len cap _ (by simp [hsz]) (fun j u hu => ?_)
                      simp only [List.getElem?_map] at hu
                      cases hj : (List.range (len * wid k))[j]? with
                      | none => simp [hj] at hu
                      | some q =>
                        obtain ⟨hj1, hj2⟩ := List.getElem?_eq_some_iff.1 hj
                        simp only [List.length_range] at hj1
                        simp only [List.getElem_range] at hj2
                        subst hj2
                        simp only [hj, Option.map_some, Option.some.injEq] at hu
                        subst hu
                        rw [Addr.add_lit, Nat.zero_mul, Nat.zero_add]
                        exact cellGet (w := w1) (by rw [hw1]; exact hh) (by omega)
                    obtain ⟨C2, cap2, d1, d2, d3, d4, d5⟩ := grow (some ⟨b, 0 * wid k, none⟩) len cap ((List.range (len * wid k)).map fun j => C.getD j Go.undef) (l.take len) htl.symm (by simp [htl]) (hold w.drew rfl) (by omega) hmost2 (fun i' x' hx' j hj => by
                        rw [List.getElem?_take] at hx'
                        split at hx'
                        · rename_i hi'
                          have hb2 : i' * wid k + j < len * wid k := by
                            have : (i' + 1) * wid k ≤ len * wid k := Nat.mul_le_mul_right _ hi'
                            rw [Nat.add_mul] at this
                            omega
                          simpa [hb2] using hr i' x' hx' j hj
                        · simp at hx') ex
                    obtain ⟨s1, e1, r1⟩ := renew _ (some b) h0 hL rfl C2 cap2 d2 d3 d4 d5
                    exact ⟨_, _, _, d1, s1, e1, r1⟩
                · exact absurd rfl (blk_gone hs hL hg hm)
              · rcases hL with hL | ⟨q, hL, hg⟩
                · obtain ⟨_, rfl, _⟩ := blk_row0 hs hL hm
                  obtain ⟨C2, cap2, d1, d2, d3, d4, d5⟩ := grow A 0 0 [] (l.take 0) rfl (by simp) (by cases A <;> simp [Builtin.firstCells, loadCells, loadCellsFrom]) (by omega) hmost2 (fun i x hx => by simp at hx) ex
                  obtain ⟨s1, e1, r1⟩ := renew _ none h0 hL rfl C2 cap2 d2 d3 d4 d5
                  exact ⟨_, _, _, d1, s1, e1, r1⟩
                · exact absurd rfl (blk_gone hs hL hg hm)
              · rcases hL with hL | ⟨q, hL, hg⟩
                · obtain ⟨_, rfl, _⟩ := blk_row hs hL hm
                  obtain ⟨C2, cap2, d1, d2, d3, d4, d5⟩ := grow (some ⟨b, off, none⟩) 0 0 [] (l.take 0) rfl (by simp) (by simp [Builtin.firstCells, loadCells, loadCellsFrom]) (by omega) hmost2 (fun i x hx => by simp at hx) ex
                  obtain ⟨s1, e1, r1⟩ := renew _ (some b) h0 hL rfl C2 cap2 d2 d3 d4 d5
                  exact ⟨_, _, _, d1, s1, e1, r1⟩
                · exact absurd rfl (blk_gone hs hL hg hm)
        · simp at hv

end ops

end Go.Proofs.Ytnghlmogcbmlfaa
