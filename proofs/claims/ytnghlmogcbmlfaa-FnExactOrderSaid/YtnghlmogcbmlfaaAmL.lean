/- New variables, rows, texts turned into bytes; a row that grows: the small machine and the model do alike. -/
import Derived.Test.YtnghlmogcbmlfaaAmK
import Derived.Laws.MakeOwn
import Derived.Laws.IdiomStrings
import Derived.Laws.BytesArg
namespace Go.Proofs.Ytnghlmogcbmlfaa
set_option linter.unusedVariables false
set_option linter.unusedSimpArgs false

theorem dec_enc {k : Kd} {cs : List AV} {x : T k} (h : dec k cs = some x) : enc k x = cs := by
  cases k
  case u8 =>
    simp only [dec] at h
    split at h
    · rename_i n
      split at h
      · rename_i hn
        simp only [Option.some.injEq] at h
        subst h
        have e1 : (UInt8.ofNat n.toNat).toNat = n.toNat := by
          rw [UInt8.toNat_ofNat']
          exact Nat.mod_eq_of_lt (by omega)
        have e2 : ((n.toNat : Nat) : Int) = n := Int.toNat_of_nonneg hn.1
        show [AV.int .u8 ((UInt8.ofNat n.toNat).toNat : Int)] = _
        rw [e1, e2]
      · simp at h
    · simp at h
  all_goals
    simp only [dec] at h
    split at h
    · simp only [Option.some.injEq] at h
      subst h
      rfl
    · simp at h

theorem enc_isCells (k : Kd) (x : T k) : isCells (enc k x) = true := by cases k <;> rfl

section ops
variable {P : Program} {kt : KT} {w0 : World} {F0 X0 : Nat → Prop} {m : List Blk} {L : List LB} {a : Act} {w : World} {o : Oper} {Z : Nat → Prop}

theorem tells_box {e : TypeId} {x : Operand} (h : o.op = .box e x) : Does1 P o a w (.pointer (some ⟨w.heap.size, 0, none⟩)) (w.alloc (.cells (a.eval x).cells e)) := by
  left
  simp [execOp, h, Instr.box, newVar, newRow]

theorem zeroT_sound {e : TypeId} {z : AV} (h : zeroT P e = some z) : ∃ V, (zeroValue e).run P w = .ok V w ∧ RepV w L Z z V := by
  unfold zeroT at h
  cases hi : P.info? e with
  | none => simp [hi] at h
  | some i =>
    cases hz : i.zero with
    | none => simp [hi, hz] at h
    | some v =>
      simp only [hi, hz] at h
      exact ⟨v, by simp [zeroValue, typeInfo, hi, hz], constA_sound 3 v z h⟩

theorem tells_alloc {e : TypeId} {V : Value} (h : o.op = .alloc e) (hz : (zeroValue e).run P w = .ok V w) : Does1 P o a w (.pointer (some ⟨w.heap.size, 0, none⟩)) (w.alloc (.cells V.cells e)) := by
  left
  simp [execOp, h, Instr.alloc, hz, newVar, newRow]

/-- What is laid into a row is only read from then on. -/
theorem frz_sound : ∀ (os : List (Option Kd)) (vs : List AV) (m : List Blk) (L : List LB) (cs : List AV) (m' : List Blk) (V : Nat → Value), SimM w0 F0 X0 m L w → frz os vs m = some (cs, m') →
    (∀ j, j < vs.length → RepV w L (ZZ X0 L) (nth vs j) (V j)) → cs.length = vs.length ∧ ∃ L', SimM w0 F0 X0 m' L' w ∧ Ext w L (ZZ X0 L) w L' (ZZ X0 L') ∧ (∀ j, j < cs.length → RepV w L' (ZZ X0 L') (nth cs j) (V j)) ∧
      ∀ i, bnth m' i ≠ .dead → L'[i]? = L[i]? ∧ bnth m' i = bnth m i := by
  intro os
  induction os with
  | nil =>
    intro vs m L cs m' V hs h hr
    cases vs with
    | cons v s => simp [frz] at h
    | nil =>
      simp only [frz, Option.some.injEq, Prod.mk.injEq] at h
      obtain ⟨rfl, rfl⟩ := h
      exact ⟨rfl, L, hs, .refl _ _ _, fun j hj => by simp at hj, fun i _ => ⟨rfl, rfl⟩⟩
  | cons ok os ih =>
    intro vs m L cs m' V hs h hr
    cases vs with
    | nil => simp [frz] at h
    | cons v s =>
      cases ok with
      | none =>
        simp only [frz] at h
        cases hf : frz os s m with
        | none => simp [hf] at h
        | some q =>
          obtain ⟨s', m1⟩ := q
          simp only [hf, Option.some.injEq, Prod.mk.injEq] at h
          obtain ⟨rfl, rfl⟩ := h
          obtain ⟨hl, L', h1, h2, h3, h4⟩ := ih s m L s' m1 (fun j => V (j + 1)) hs hf (fun j hj => hr (j + 1) (by simpa using hj))
          refine ⟨by simp [hl], L', h1, h2, fun j hj => ?_, h4⟩
          cases j with
          | zero => exact (hr 0 (by simp)).ext h2
          | succ j => exact h3 j (by simpa using hj)
      | some k =>
        simp only [frz] at h
        cases ha : asList k m v with
        | none => simp [ha] at h
        | some l =>
          simp only [ha] at h
          have hv : RepV w L (ZZ X0 L) v (V 0) := hr 0 (by simp)
          obtain ⟨p, cap, b, off, C, hread⟩ := as_read hs hv ha
          -- the memory behind the first cell
          have step : ∃ L1 m1, killMs v m = m1 ∧ SimM w0 F0 X0 m1 L1 w ∧ Ext w L (ZZ X0 L) w L1 (ZZ X0 L1) ∧ RepV w L1 (ZZ X0 L1) (.sl k l) (V 0) ∧
              ∀ i, bnth m1 i ≠ .dead → L1[i]? = L[i]? ∧ bnth m1 i = bnth m i := by
            cases v <;> simp only [asList] at ha <;> try (simp at ha; done)
            case nil =>
              simp only [Option.some.injEq] at ha
              subst ha
              obtain ⟨q, e⟩ := hv.nil_inv
              rw [e]
              exact ⟨L, m, rfl, hs, .refl _ _ _, .sl k [] q 0 0 0 (fun _ => Go.undef) (Nat.zero_le _) (Nat.zero_le _) (fun h => absurd rfl h) (fun j hj => by simp at hj) (fun i x hx => by simp at hx), fun i _ => ⟨rfl, rfl⟩⟩
            case sl k' l' =>
              obtain ⟨ek, el⟩ := castK_some ha
              subst ek
              obtain rfl : l' = l := el.symm
              exact ⟨L, m, rfl, hs, .refl _ _ _, hv, fun i _ => ⟨rfl, rfl⟩⟩
            case ms id v0 lo len =>
              cases hm : bnth m id with
              | dead => simp [hm] at ha
              | cells cs => simp [hm] at ha
              | row v' k' l' =>
                have hid : ∃ x, L[id]? = some x := by
                  have : id < L.length := by rw [hs.ll]; exact bnth_of hm (by simp)
                  exact ⟨L[id], List.getElem?_eq_getElem this⟩
                obtain ⟨x, hx⟩ := hid
                have hown : ∀ c, LB.owns .dead c → x.owns c ∨ w.heap.size ≤ c := fun c hc => hc.elim
                have e := hs.ext_upd (w' := w) hx (.inr (.inl rfl)) (Nat.le_refl _) (fun _ _ _ => rfl) (fun _ _ => rfl) hown
                have s1 : SimM w0 F0 X0 (setB m id .dead) (L.set id .dead) w := hs.upd (w' := w) hx (.inr (.inl rfl)) (Nat.le_refl _) (fun _ _ _ => rfl) (fun _ _ => rfl) hown rfl rfl rfl trivial
                refine ⟨L.set id .dead, setB m id .dead, rfl, s1, e, ?_, fun i hi => ?_⟩
                · -- the list that was named by the row
                  have hrep : ∀ i x, l[i]? = some x → ∀ j, j < wid k → RepV w (L.set id .dead) (ZZ X0 (L.set id .dead)) (nth (enc k x) j) (C (i * wid k + j)) := fun i x hx j hj => (hread.rep i x hx j hj).ext e
                  rw [hread.val]
                  refine .sl k l p cap b off C ?_ hread.len (fun hl => ⟨hread.at_ hl, ?_⟩) hread.cell hrep
                  · rcases hv.ms_inv with ⟨b', n', cap', ex, hcap, hL⟩ | ⟨n', A, _, hlen, ex, hL⟩ | ⟨b', off', n', ⟨hlen, hlo⟩, ex, hL⟩
                    · have := hread.val.symm.trans ex
                      simp only [Value.slice.injEq] at this
                      omega
                    · have := hread.val.symm.trans ex
                      simp only [Value.slice.injEq] at this
                      omega
                    · have := hread.val.symm.trans ex
                      simp only [Value.slice.injEq] at this
                      omega
                  · -- the block is named by nothing that is written
                    have hxo : x.owns b := by
                      rcases hv.ms_inv with ⟨b', n', cap', ex, hcap, hL⟩ | ⟨n', A, _, hlen, ex, hL⟩ | ⟨b', off', n', ⟨hlen, hlo⟩, ex, hL⟩
                      · have hb : b = b' := by
                          have := hread.val.symm.trans ex
                          simp only [Value.slice.injEq] at this
                          have h2 := this.1
                          rw [hread.at_ hl] at h2
                          simp only [Option.some.injEq, Addr.mk.injEq] at h2
                          exact h2.1
                        subst hb
                        rcases hL with ⟨hL, _⟩ | ⟨z, hL, hg⟩
                        · rw [hx] at hL
                          obtain rfl := Option.some.inj hL
                          rfl
                        · have hne := blk_gone hs hL hg hm
                          exfalso
                          simp only [hm] at ha
                          cases he : eqN v0 v' with
                          | false => simp [he] at ha
                          | true => exact hne (eqN_iff.1 he)
                      · have := hread.val.symm.trans ex
                        simp only [Value.slice.injEq] at this
                        exact absurd (List.length_eq_zero_iff.1 (by omega)) hl
                      · have := hread.val.symm.trans ex
                        simp only [Value.slice.injEq] at this
                        exact absurd (List.length_eq_zero_iff.1 (by omega)) hl
                    rintro (hX | ⟨j, y, hy, ho⟩)
                    · exact hs.nx id x b hx hxo hX
                    · by_cases hji : id = j
                      · subst hji
                        rw [getElem?_set_eq' hx] at hy
                        obtain rfl := Option.some.inj hy
                        exact ho
                      · rw [getElem?_set_ne' hji] at hy
                        exact hji (hs.inj id j x y b hx hy hxo ho)
                · by_cases hji : id = i
                  · subst hji
                    exact absurd (bnth_setB_same (bnth_of hm (by simp))) hi
                  · exact ⟨getElem?_set_ne' hji, bnth_setB_other hji⟩
          obtain ⟨L1, m1, e1, s1, x1, r1, k1⟩ := step
          rw [e1] at h
          cases hf : frz os s m1 with
          | none => simp [hf] at h
          | some q =>
            obtain ⟨s', m2⟩ := q
            simp only [hf, Option.some.injEq, Prod.mk.injEq] at h
            obtain ⟨rfl, rfl⟩ := h
            obtain ⟨hl, L', h1, h2, h3, h4⟩ := ih s m1 L1 s' m2 (fun j => V (j + 1)) s1 hf (fun j hj => (hr (j + 1) (by simpa using hj)).ext x1)
            refine ⟨by simp [hl], L', h1, x1.trans h2, fun j hj => ?_, fun i hi => ?_⟩
            · cases j with
              | zero => exact r1.ext h2
              | succ j => exact h3 j (by simpa using hj)
            · obtain ⟨q1, q2⟩ := h4 i hi
              obtain ⟨q3, q4⟩ := k1 i (by rw [← q2]; exact hi)
              exact ⟨q1.trans q3, q2.trans q4⟩

theorem elem_sound {k : Kd} {v : AV} {x : T k} {m' : List Blk} {V : Value} (hs : SimM w0 F0 X0 m L w) (h : elemA k v m = some (x, m')) (hv : RepV w L (ZZ X0 L) v V) :
    V.cells.size = wid k ∧ ∃ L', SimM w0 F0 X0 m' L' w ∧ Ext w L (ZZ X0 L) w L' (ZZ X0 L') ∧ ∀ j, j < wid k → RepV w L' (ZZ X0 L') (nth (enc k x) j) (V.cells.getD j Go.undef) := by
  unfold elemA at h
  cases hf : frz (leaf k) (cellsOf v) m with
  | none => simp [hf] at h
  | some q =>
    obtain ⟨cs, m1⟩ := q
    cases hd : dec k cs with
    | none => simp [hf, hd] at h
    | some y =>
      simp only [hf, hd, Option.some.injEq, Prod.mk.injEq] at h
      obtain ⟨rfl, rfl⟩ := h
      obtain ⟨c1, c2⟩ := cells_rel hv
      obtain ⟨hl, L', h1, h2, h3, _⟩ := frz_sound (leaf k) (cellsOf v) m L cs m1 (fun j => V.cells.getD j Go.undef) hs hf c2
      have he := dec_enc hd
      have hw : cs.length = wid k := by rw [← he, enc_length]
      refine ⟨by omega, L', h1, h2, fun j hj => ?_⟩
      rw [he]
      exact h3 j (by omega)

theorem elems_sound {k : Kd} : ∀ (vs : List AV) (m : List Blk) (L : List LB) (l : List (T k)) (m' : List Blk) (Vs : List Value), SimM w0 F0 X0 m L w → elemsA k vs m = some (l, m') → Vs.length = vs.length →
    (∀ j, j < vs.length → RepV w L (ZZ X0 L) (nth vs j) (Vs[j]?.getD Go.undef)) →
    l.length = vs.length ∧ (∀ V, V ∈ Vs → V.cells.size = wid k) ∧ ∃ L', SimM w0 F0 X0 m' L' w ∧ Ext w L (ZZ X0 L) w L' (ZZ X0 L') ∧
      ∀ (i : Nat) (x : T k), l[i]? = some x → ∀ j, j < wid k → RepV w L' (ZZ X0 L') (nth (enc k x) j) ((Vs[i]?.getD Go.undef).cells.getD j Go.undef) := by
  intro vs
  induction vs with
  | nil =>
    intro m L l m' Vs hs h hl hr
    simp only [elemsA, Option.some.injEq, Prod.mk.injEq] at h
    obtain ⟨rfl, rfl⟩ := h
    obtain rfl := List.length_eq_zero_iff.1 hl
    exact ⟨rfl, fun V hV => by simp at hV, L, hs, .refl _ _ _, fun i x hx => by simp at hx⟩
  | cons v vs ih =>
    intro m L l m' Vs hs h hl hr
    simp only [elemsA] at h
    cases Vs with
    | nil => simp at hl
    | cons V Vs =>
      cases h1 : elemA k v m with
      | none => simp [h1] at h
      | some q =>
        obtain ⟨x, m1⟩ := q
        cases h2 : elemsA k vs m1 with
        | none => simp [h1, h2] at h
        | some q =>
          obtain ⟨l2, m2⟩ := q
          simp only [h1, h2, Option.some.injEq, Prod.mk.injEq] at h
          obtain ⟨rfl, rfl⟩ := h
          obtain ⟨c1, L1, s1, e1, r1⟩ := elem_sound hs h1 (V := V) (by simpa [nth] using hr 0 (by simp))
          obtain ⟨g1, g2, L2, s2, e2, r2⟩ := ih m1 L1 l2 m2 Vs s1 h2 (by simpa using hl) (fun j hj => by
            have := hr (j + 1) (by simpa using hj)
            exact RepV.ext (by simpa [nth] using this) e1)
          refine ⟨by simp [g1], fun U hU => ?_, L2, s2, e1.trans e2, fun i y hy j hj => ?_⟩
          · rcases List.mem_cons.1 hU with rfl | hU
            · exact c1
            · exact g2 U hU
          · cases i with
            | zero =>
              simp only [List.getElem?_cons_zero, Option.some.injEq] at hy
              subst hy
              simpa using (r1 j hj).ext e2
            | succ i => simpa using r2 i y (by simpa using hy) j hj

end ops

end Go.Proofs.Ytnghlmogcbmlfaa
