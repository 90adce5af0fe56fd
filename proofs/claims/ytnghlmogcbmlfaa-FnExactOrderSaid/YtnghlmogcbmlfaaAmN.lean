/- Stores, and what grows: the small machine and the model do alike. -/
import Derived.Test.YtnghlmogcbmlfaaAmM
import Derived.Deep.Upon
namespace Go.Proofs.Ytnghlmogcbmlfaa
set_option linter.unusedVariables false
set_option linter.unusedSimpArgs false

theorem splice_length : ∀ (cs : List AV) (off : Nat) (new : List AV), (splice cs off new).length = cs.length := by
  intro cs
  induction cs with
  | nil => intro off new; cases off <;> cases new <;> rfl
  | cons x r ih =>
    intro off new
    cases off with
    | zero => cases new with
      | nil => rfl
      | cons y s => simp [splice, ih]
    | succ o => simp [splice, ih]

theorem splice_nth : ∀ (cs : List AV) (off : Nat) (new : List AV) (j : Nat), off + new.length ≤ cs.length → nth (splice cs off new) j = if off ≤ j ∧ j < off + new.length then nth new (j - off) else nth cs j := by
  intro cs
  induction cs with
  | nil =>
    intro off new j h
    cases off <;> cases new <;> simp at h <;> simp [splice]
  | cons x r ih =>
    intro off new j h
    cases off with
    | zero => cases new with
      | nil => simp [splice]
      | cons y s =>
        cases j with
        | zero => simp [splice, nth]
        | succ j =>
          simp only [splice, nth_cons_succ]
          rw [ih 0 s j (by simpa using h)]
          by_cases hj : j < s.length
          · rw [if_pos ⟨by omega, by omega⟩, if_pos ⟨by omega, by simp; omega⟩]
            simp [nth_cons_succ]
          · rw [if_neg (by omega), if_neg (by simp; omega)]
    | succ o =>
      cases j with
      | zero =>
        rw [if_neg (by omega)]
        rfl
      | succ j =>
        simp only [splice, nth_cons_succ]
        rw [ih o new j (by simp at h; omega)]
        by_cases hj : o ≤ j ∧ j < o + new.length
        · rw [if_pos hj, if_pos ⟨by omega, by omega⟩, show j + 1 - (o + 1) = j - o by omega]
        · rw [if_neg hj, if_neg (by omega)]

section ops
variable {P : Program} {kt : KT} {w0 : World} {F0 X0 : Nat → Prop} {m : List Blk} {L : List LB} {a : Act} {w : World} {o : Oper} {Z : Nat → Prop}

theorem run_store_cells {t : TypeId} {n b off : Nat} {V : Value} {C : Array Value} {ty : TypeId} {z : Nat × Nat} (hn : sizeT P t = some n) (hsz : V.cells.size = n) (hh : w.heap[b]? = some (.cells C ty z)) (hz : NoMark z C.size) (hle : off + n ≤ C.size)
    (h1 : ∀ u ∈ V.cells.toList, u.oneCell' = true) : (Instr.storeAt t (.pointer (some ⟨b, off, none⟩)) V).run P w = .ok () (w.setCells b off V.cells.toList) := by
  have hl : V.cells.toList.length = n := by simpa using hsz
  have := run_storeCells_cells (P := P) b off V.cells.toList 0 w (fun j hj => by
      simp only [Nat.add_zero]
      rw [cellGet hh (by omega)]
      rfl) (fun j hj => by
      simp only [Nat.add_zero, World.frozen?, hh]
      have := hz (off + j) (by omega)
      simp
      omega) h1
  simp only [Nat.add_zero] at this
  simp [Instr.storeAt, Instr.sureAddr, storeVar, run_sizeT hn, hsz, this]

theorem cells_one {v : AV} {V : Value} (hv : RepV w L Z v V) (hc : isCells (cellsOf v) = true) : ∀ u ∈ V.cells.toList, u.oneCell' = true := by
  obtain ⟨c1, c2⟩ := cells_rel hv
  intro u hu
  obtain ⟨j, hj, rfl⟩ := List.getElem_of_mem hu
  have hj' : j < (cellsOf v).length := by rw [← c1]; simpa using hj
  have := oneCell_of (c2 j hj') (isCells_nth hc hj')
  have e : V.cells.getD j Go.undef = V.cells.toList[j] := getD_of (by rw [← Array.getElem?_toList]; exact List.getElem?_eq_getElem hj)
  rw [e] at this
  exact this

theorem set_self {L : List LB} {i : Nat} {x : LB} (h : L[i]? = some x) : L.set i x = L := by
  apply List.ext_getElem?
  intro j
  by_cases e : i = j
  · subst e
    rw [getElem?_set_eq' h, h]
  · rw [getElem?_set_ne' e]

/-- A store. -/
theorem st_sound (hs : SimM w0 F0 X0 m L w) {t : TypeId} {x y : Operand} {n : Nat} {p v0 : AV} {m' : List Blk} (h : o.op = .store t x y) (hn : sizeT P t = some n) (hp : RepV w L (ZZ X0 L) p (a.eval x)) (hv : RepV w L (ZZ X0 L) v0 (a.eval y))
    (he : stA m n p v0 = some m') : ∃ w' L', Does1 P o a w Go.undef w' ∧ SimM w0 F0 X0 m' L' w' ∧ Ext w L (ZZ X0 L) w' L' (ZZ X0 L') := by
  unfold stA at he
  cases hl : eqN (cellsOf v0).length n with
  | false => simp [hl] at he
  | true =>
    have hln := eqN_iff.1 hl
    simp only [hl] at he
    obtain ⟨c1, c2⟩ := cells_rel hv
    cases p <;> simp only at he <;> try (simp at he; done)
    case ptr id off =>
      cases hm : bnth m id with
      | dead => simp [hm] at he
      | row v k l => simp [hm] at he
      | cells cs =>
        simp only [hm] at he
        cases hic : isCells (cellsOf v0) with
        | false => simp [hic] at he
        | true =>
          simp only [hic] at he
          split at he
          · rename_i hle
            simp only [Option.some.injEq] at he
            subst he
            obtain ⟨b, ex, hL⟩ := hp.ptr_inv
            rcases hL with hL | hL
            · obtain ⟨C, ty, hh, hsz, hr⟩ := blk_cells hs hL hm
              have hrun := run_store_cells (P := P) (b := b) (off := off) hn (c1.trans hln) hh (NoMark.zero _) (by omega) (cells_one hv hic)
              obtain ⟨C', g1, g2, g3⟩ := setCells_heap b (a.eval y).cells.toList off w C ty (0, 0) hh (by simp; omega)
              obtain ⟨q1, q2, q3⟩ := setCells_env b (a.eval y).cells.toList off w
              have hsame : ∀ c, c < w.heap.size → ¬ (LB.cell b).owns c → (w.setCells b off (a.eval y).cells.toList).heap[c]? = w.heap[c]? := fun c _ ho => setCells_other b _ off w c (fun e => ho e.symm)
              have hszOf : ∀ c, c < w.heap.size → szOf (w.setCells b off (a.eval y).cells.toList) c = szOf w c := fun c _ => setCells_szOf hh (by simp; omega) c
              have hsize : w.heap.size ≤ (w.setCells b off (a.eval y).cells.toList).heap.size := by rw [setCells_size]; exact Nat.le_refl _
              have e := hs.ext_upd (w' := w.setCells b off (a.eval y).cells.toList) hL (.refl _) hsize hsame hszOf (fun c hc => .inl hc)
              refine ⟨_, L.set id (.cell b), .inr ⟨by simp [execOp, h, ex, hrun], rfl⟩, hs.upd hL (.refl _) hsize hsame hszOf (fun c hc => .inl hc) q1 q2 q3 ?_, e⟩
              refine ⟨C', ty, g1, by rw [splice_length]; omega, fun j hj => ?_⟩
              rw [splice_length] at hj
              rw [splice_nth _ _ _ _ (by omega), g3 j (by omega)]
              by_cases hjr : off ≤ j ∧ j < off + (cellsOf v0).length
              · rw [if_pos hjr, if_pos ⟨hjr.1, by simp; omega⟩]
                have := (c2 (j - off) (by omega)).ext e
                simpa [Array.getD_eq_getD_getElem?] using this
              · rw [if_neg hjr, if_neg (by simp; omega)]
                exact (hr j hj).ext e
            · have := blk_dead hs hL hm
              cases this
          · simp at he
    case rp id v1 i off =>
      cases hm : bnth m id with
      | dead => simp [hm] at he
      | cells cs => simp [hm] at he
      | row ver k l =>
        simp only [hm] at he
        cases hq : eqN v1 ver with
        | false => simp [hq] at he
        | true =>
          obtain rfl := eqN_iff.1 hq
          simp only [hq] at he
          cases hi : l[i]? with
          | none => simp [hi] at he
          | some x0 =>
            simp only [hi] at he
            split at he
            · rename_i hle
              cases hf : frz (leaf k) (splice (enc k x0) off (cellsOf v0)) m with
              | none => simp [hf] at he
              | some q =>
                obtain ⟨cs, m1⟩ := q
                simp only [hf] at he
                cases hd : dec k cs with
                | none => simp [hd] at he
                | some y0 =>
                  cases hm1 : bnth m1 id with
                  | dead => simp [hd, hm1] at he
                  | cells cs' => simp [hd, hm1] at he
                  | row ver' k' l' =>
                    simp only [hd, hm1, Option.some.injEq] at he
                    subst he
                    have hdec := dec_enc hd
                    obtain ⟨b, n', ex, hL⟩ := hp.rp_inv
                    rcases hL with hL | ⟨z, hL, hg⟩
                    · obtain ⟨_, rfl, hml, C, ty, z, hh, hnm, hsz, hr⟩ := blk_row hs hL hm
                      have hib : i * wid k + wid k ≤ C.size := by
                        have := row_bound (k := k) (j := wid k - 1) hi (by have := wid_pos k; omega) hsz
                        have := wid_pos k
                        omega
                      have hel : (enc k x0).length = wid k := enc_length k x0
                      obtain ⟨f1, L1, s1, e1, r1, k1⟩ := frz_sound (leaf k) _ m L cs m1 (fun j => if off ≤ j ∧ j < off + (cellsOf v0).length then (a.eval y).cells.getD (j - off) Go.undef else C.getD (i * wid k + j) Go.undef) hs hf (fun j hj => by
                          rw [splice_length] at hj
                          rw [splice_nth _ _ _ _ (by omega)]
                          by_cases hjr : off ≤ j ∧ j < off + (cellsOf v0).length
                          · rw [if_pos hjr, if_pos hjr]
                            exact c2 _ (by omega)
                          · rw [if_neg hjr, if_neg hjr]
                            exact hr i x0 hi j (by omega))
                      obtain ⟨hL1, hm1'⟩ := k1 id (by rw [hm1]; simp)
                      rw [hL] at hL1
                      rw [hm] at hm1'
                      obtain ⟨_, _, _, C2, ty2, z2, hh2, _, _, hr2⟩ := blk_row s1 hL1 hm1'
                      rw [hh] at hh2
                      simp only [Option.some.injEq, Obj.cells.injEq] at hh2
                      obtain ⟨rfl, rfl, rfl⟩ := hh2
                      have hcl : cs.length = wid k := by rw [← hdec, enc_length]
                      -- the cells that are stored are cells of the element
                      have hone : ∀ u ∈ (a.eval y).cells.toList, u.oneCell' = true := by
                        intro u hu
                        obtain ⟨j, hj, rfl⟩ := List.getElem_of_mem hu
                        have hj' : j < n := by
                          have : (a.eval y).cells.toList.length = n := by simp; omega
                          omega
                        have hc := r1 (off + j) (by omega)
                        rw [if_pos ⟨by omega, by omega⟩, show off + j - off = j by omega] at hc
                        have hcell : isCells [nth cs (off + j)] = true := isCells_nth (by rw [← hdec]; exact enc_isCells k y0) (by omega)
                        have := oneCell_of hc hcell
                        have ee : (a.eval y).cells.getD j Go.undef = (a.eval y).cells.toList[j] := getD_of (by rw [← Array.getElem?_toList]; exact List.getElem?_eq_getElem hj)
                        rw [ee] at this
                        exact this
                      have hrun := run_store_cells (P := P) (b := b) (off := i * wid k + off) hn (c1.trans hln) hh hnm (by omega) hone
                      obtain ⟨C', g1, g2, g3⟩ := setCells_heap b (a.eval y).cells.toList (i * wid k + off) w C ty z hh (by simp; omega)
                      obtain ⟨q1, q2, q3⟩ := setCells_env b (a.eval y).cells.toList (i * wid k + off) w
                      have hsame : ∀ c, c < w.heap.size → ¬ (LB.row (some b) v1 (wid k)).owns c → (w.setCells b (i * wid k + off) (a.eval y).cells.toList).heap[c]? = w.heap[c]? := fun c _ ho => setCells_other b _ _ w c (fun e => ho e.symm)
                      have hszOf : ∀ c, c < w.heap.size → szOf (w.setCells b (i * wid k + off) (a.eval y).cells.toList) c = szOf w c := fun c _ => setCells_szOf hh (by simp; omega) c
                      have hsize : w.heap.size ≤ (w.setCells b (i * wid k + off) (a.eval y).cells.toList).heap.size := by rw [setCells_size]; exact Nat.le_refl _
                      have e2 := s1.ext_upd (w' := w.setCells b (i * wid k + off) (a.eval y).cells.toList) hL1 (.refl _) hsize hsame hszOf (fun c hc => .inl hc)
                      refine ⟨_, L1.set id (.row (some b) v1 (wid k)), .inr ⟨by simp [execOp, h, ex, hrun], rfl⟩, s1.upd hL1 (.refl _) hsize hsame hszOf (fun c hc => .inl hc) q1 q2 q3 ?_, e1.trans e2⟩
                      refine ⟨rfl, rfl, by simpa using hml, C', ty, z, g1, by rw [g2]; exact hnm, by rw [g2]; simpa using hsz, fun i' x' hx' j hj => ?_⟩
                      have hb' : i' * wid k + j < C.size := row_bound hx' hj (by simpa using hsz)
                      rw [g3 _ hb']
                      by_cases hii : i = i'
                      · subst hii
                        have hlt : i < l.length := (List.getElem?_eq_some_iff.1 hi).1
                        rw [List.getElem?_set_self hlt] at hx'
                        obtain rfl := Option.some.inj hx'
                        rw [hdec]
                        have := (r1 j (by omega)).ext e2
                        by_cases hjr : off ≤ j ∧ j < off + (cellsOf v0).length
                        · rw [if_pos hjr] at this
                          rw [if_pos ⟨by omega, by simp; omega⟩]
                          rw [show i * wid k + j - (i * wid k + off) = j - off by omega]
                          simpa [Array.getD_eq_getD_getElem?] using this
                        · rw [if_neg hjr] at this
                          rw [if_neg (by simp; omega)]
                          exact this
                      · rw [List.getElem?_set_ne hii] at hx'
                        have hne : ¬ (i * wid k + off ≤ i' * wid k + j ∧ i' * wid k + j < i * wid k + off + (a.eval y).cells.toList.length) := by
                          have hl2 : (a.eval y).cells.toList.length = n := by simp; omega
                          rcases Nat.lt_or_gt_of_ne hii with h1 | h1
                          · have : (i + 1) * wid k ≤ i' * wid k := Nat.mul_le_mul_right _ h1
                            rw [Nat.add_mul] at this
                            omega
                          · have : (i' + 1) * wid k ≤ i * wid k := Nat.mul_le_mul_right _ h1
                            rw [Nat.add_mul] at this
                            omega
                        rw [if_neg hne]
                        exact (hr2 i' x' hx' j hj).ext e2
                    · exact absurd rfl (blk_gone hs hL hg hm)
            · simp at he

end ops

end Go.Proofs.Ytnghlmogcbmlfaa
