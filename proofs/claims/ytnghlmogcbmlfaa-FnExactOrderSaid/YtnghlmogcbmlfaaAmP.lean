/- One operation: the small machine's instruction and the model's operation go together. -/
import Derived.Test.YtnghlmogcbmlfaaAmO
namespace Go.Proofs.Ytnghlmogcbmlfaa
set_option linter.unusedVariables false
set_option linter.unusedSimpArgs false

section ops
variable {P : Program} {kt : KT} {w0 : World} {F0 X0 : Nat → Prop} {m : List Blk} {L : List LB} {a : Act} {w : World} {o : Oper} {Z : Nat → Prop} {s : St} {C : Tab} {how : How} {i : AI} {K : AV → List Blk → Prop}

/-- What an operation brings about. -/
def Goes (P : Program) (w0 : World) (F0 X0 : Nat → Prop) (L : List LB) (o : Oper) (a : Act) (w : World) (K : AV → List Blk → Prop) : Prop :=
  ∃ v m' V w' L', K v m' ∧ Does1 P o a w V w' ∧ SimM w0 F0 X0 m' L' w' ∧ Ext w L (ZZ X0 L) w' L' (ZZ X0 L') ∧ RepV w' L' (ZZ X0 L') v V

theorem goes_tells (hs : Sim w0 F0 X0 s L a w) {v : AV} (hK : K v s.m) (h : ∃ V, Tells P o a w V ∧ RepV w L (ZZ X0 L) v V) : Goes P w0 F0 X0 L o a w K := by
  obtain ⟨V, h1, h2⟩ := h
  exact ⟨v, s.m, V, w, L, hK, .inl h1, hs.mem, .refl _ _ _, h2⟩

/-- The operation is read, and what comes of it is asked of: of one that is no nil test and no choice. -/
theorem ev_step {v0 : Option (AV × List Blk)} (h : match v0 with | some (v, m) => K v m | none => False) : ∃ v m, v0 = some (v, m) ∧ K v m := by
  cases v0 with
  | none => exact h.elim
  | some q => exact ⟨q.1, q.2, rfl, h⟩

theorem ev_v {x : Option AV} (h : match (match x with | some y => some (y, m) | none => none : Option (AV × List Blk)) with | some (v, m) => K v m | none => False) : ∃ v, x = some v ∧ K v m := by
  cases x with
  | none => exact h.elim
  | some q => exact ⟨q, rfl, h⟩

theorem go_move (hs : Sim w0 F0 X0 s L a w) {x : Operand} (ho : o.op = .move x ∨ o.op = .assign x) {y : O} (hy : resO x = some y) (hK : K (y.get s) s.m) : Goes P w0 F0 X0 L o a w K :=
  goes_tells hs hK ⟨_, tells_move ho, resO_sound hs hy⟩

theorem go_pick (hs : Sim w0 F0 X0 s L a w) {c x y : Operand} (ho : o.op = .pick c x y) {c' x' y' : O} (hc : resO c = some c') (hx : resO x = some x') (hy : resO y = some y') (hK : evI C (.pick c' x' y') s K) : Goes P w0 F0 X0 L o a w K := by
  have hr := resO_sound hs hc
  simp only [evI] at hK
  cases hv : c'.get s <;> simp only [hv] at hK
  rename_i b
  rw [hv] at hr
  have hb := hr.bool_inv
  cases b with
  | true => exact goes_tells hs hK ⟨a.eval x, by simp [Tells, execOp, ho, hb, asBool], resO_sound hs hx⟩
  | false => exact goes_tells hs hK ⟨a.eval y, by simp [Tells, execOp, ho, hb, asBool], resO_sound hs hy⟩

theorem go_box (hs : Sim w0 F0 X0 s L a w) {e : TypeId} {V : Value} {v : AV} (hd : Does1 P o a w (.pointer (some ⟨w.heap.size, 0, none⟩)) (w.alloc (.cells V.cells e))) (hv : RepV w L (ZZ X0 L) v V)
    (hK : K (.ptr s.m.length 0) (s.m ++ [.cells (cellsOf v)])) : Goes P w0 F0 X0 L o a w K := by
  obtain ⟨c1, c2⟩ := cells_rel hv
  obtain ⟨h1, h2, h3⟩ := push_cells hs.mem (t := e) c1 c2
  exact ⟨_, _, _, _, _, hK, hd, h1, h2, h3⟩

theorem go_load (hs : Sim w0 F0 X0 s L a w) {t : TypeId} {x : Operand} (ho : o.op = .load t x) {g : Bool} {n : Nat} {y : O} (hg : aggT P t = some g) (hn : sizeT P t = some n) (hy : resO x = some y) {v : AV} (hv : ldA s.m g n (y.get s) = some v) (hK : K v s.m) : Goes P w0 F0 X0 L o a w K :=
  goes_tells hs hK (tells_load hs ho hg hn (resO_sound hs hy) hv)

theorem go_store (hs : Sim w0 F0 X0 s L a w) {t : TypeId} {x y : Operand} (ho : o.op = .store t x y) {n : Nat} {x' y' : O} (hn : sizeT P t = some n) (hx : resO x = some x') (hy : resO y = some y') {m' : List Blk} (hv : stA s.m n (x'.get s) (y'.get s) = some m') (hK : K .undef m') : Goes P w0 F0 X0 L o a w K := by
  obtain ⟨w', L', h1, h2, h3⟩ := st_sound hs.mem ho hn (resO_sound hs hx) (resO_sound hs hy) hv
  exact ⟨_, _, _, _, _, hK, h1, h2, h3, .undef⟩

theorem go_nc (hs : Sim w0 F0 X0 s L a w) {x : Operand} (ho : o.op = .nilCheck x) {y : O} (hy : resO x = some y) (hK : evI C (.nc y) s K) : Goes P w0 F0 X0 L o a w K := by
  have hr := resO_sound hs hy
  simp only [evI, stepI] at hK
  cases hv : y.get s <;> simp only [hv] at hK
  · rw [hv] at hr
    obtain ⟨b, o', Cf, e, _⟩ := hr.ip_inv
    exact goes_tells hs hK ⟨_, tells_nilCheck ho e, e ▸ hr⟩
  · rw [hv] at hr
    obtain ⟨b, e, _⟩ := hr.ptr_inv
    exact goes_tells hs hK ⟨_, tells_nilCheck ho e, e ▸ hr⟩
  · rw [hv] at hr
    obtain ⟨b, n, e, _⟩ := hr.rp_inv
    exact goes_tells hs hK ⟨_, tells_nilCheck ho e, e ▸ hr⟩

theorem go_bin (hs : Sim w0 F0 X0 s L a w) {op : BinOp} {t u : TypeId} {x y : Operand} (ho : o.op = .binOp op t x y u) {x' y' : O} (hx : resO x = some x') (hy : resO y = some y') {v : AV} (hv : binA op (x'.get s) (y'.get s) = some v) (hK : K v s.m) : Goes P w0 F0 X0 L o a w K :=
  goes_tells hs hK (tells_bin ho (resO_sound hs hx) (resO_sound hs hy) hv)

theorem go_eqb (hs : Sim w0 F0 X0 s L a w) {op : BinOp} {t u : TypeId} {x y : Operand} {neg : Bool} (ho : o.op = .binOp op t x y u) (ht : P.underlying t = some .bool) (hop : (op = .eql ∧ neg = false) ∨ (op = .neq ∧ neg = true))
    {x' y' : O} (hx : resO x = some x') (hy : resO y = some y') (hK : evI C (.eqb neg x' y') s K) : Goes P w0 F0 X0 L o a w K := by
  have hr := resO_sound hs hx
  have hq := resO_sound hs hy
  simp only [evI, stepI] at hK
  cases hv : x'.get s <;> simp only [hv] at hK
  rename_i b
  cases hu : y'.get s <;> simp only [hu] at hK
  rename_i c
  rw [hv] at hr
  rw [hu] at hq
  have := tells_eqb (P := P) (w := w) ho ht hr.bool_inv hq.bool_inv (hop.imp And.left And.left)
  rcases hop with ⟨rfl, rfl⟩ | ⟨rfl, rfl⟩
  · exact goes_tells hs hK ⟨_, this, .bool _⟩
  · exact goes_tells hs hK ⟨_, this, .bool _⟩

theorem go_eqe (hs : Sim w0 F0 X0 s L a w) {op : BinOp} {t u : TypeId} {x : Operand} {ms : Array (String × TypeId)} {neg : Bool} (ho : o.op = .binOp op t x (.const .nilIface) u) (ht : P.underlying t = some (.interface ms)) (hop : (op = .eql ∧ neg = false) ∨ (op = .neq ∧ neg = true))
    {x' : O} (hx : resO x = some x') (hK : evI C (.eqe neg x') s K) : Goes P w0 F0 X0 L o a w K := by
  have hr := resO_sound hs hx
  simp only [evI, stepI] at hK
  cases hv : x'.get s <;> simp only [hv] at hK
  rename_i b
  rw [hv] at hr
  have := tells_eqe (P := P) ho ht hr (hop.imp And.left And.left)
  rcases hop with ⟨rfl, rfl⟩ | ⟨rfl, rfl⟩
  · exact goes_tells hs hK ⟨_, this, .bool _⟩
  · exact goes_tells hs hK ⟨_, this, .bool _⟩

theorem go_eqa (hs : Sim w0 F0 X0 s L a w) {op : BinOp} {t u : TypeId} {x y : Operand} {ps : List Pr} {neg : Bool} (ho : o.op = .binOp op t x y u) (ht : flatT P t = some ps) (hop : (op = .eql ∧ neg = false) ∨ (op = .neq ∧ neg = true))
    {x' y' : O} (hx : resO x = some x') (hy : resO y = some y') (hK : evI C (.eqa neg ps x' y') s K) : Goes P w0 F0 X0 L o a w K := by
  have hr := resO_sound hs hx
  have hq := resO_sound hs hy
  simp only [evI, stepI] at hK
  cases hv : x'.get s <;> simp only [hv] at hK
  rename_i xs
  cases hu : y'.get s <;> simp only [hu] at hK
  rename_i ys
  rw [hv] at hr
  rw [hu] at hq
  cases he : eqL ps xs ys with
  | none => simp only [he] at hK
  | some r =>
    simp only [he] at hK
    have := tells_eqa (P := P) ho ht hr hq he (hop.imp And.left And.left)
    rcases hop with ⟨rfl, rfl⟩ | ⟨rfl, rfl⟩
    · exact goes_tells hs hK ⟨_, this, .bool _⟩
    · exact goes_tells hs hK ⟨_, this, .bool _⟩

theorem equalIn_sl (d : Nat) {t e : TypeId} {p : Option Addr} {n cap : Nat} (ht : P.underlying t = some (.slice e)) : (Op.equalIn (d + 1) t (.slice p n cap) (.slice none 0 0)).run P w = .ok p.isNone w := by
  cases p <;> simp [Op.equalIn, run_underlying ht]

theorem tells_isnil {op : BinOp} {t e u : TypeId} {x : Operand} {p : Option Addr} {n cap : Nat} (ho : o.op = .binOp op t x (.const (.slice none 0 0)) u) (ht : P.underlying t = some (.slice e)) (hx : a.eval x = .slice p n cap) (hop : op = .eql ∨ op = .neq) :
    Tells P o a w (.bool (if op = .neq then p.isSome else p.isNone)) := by
  have he : a.eval (.const (.slice none 0 0)) = .slice none 0 0 := rfl
  have hg : (eqGuard op t x (.const (.slice none 0 0)) (.slice p n cap) (.slice none 0 0)).run P w = .ok () w := eqGuard_plain rfl (fun h => by cases h)
  have hq : (Op.equal t (.slice p n cap) (.slice none 0 0)).run P w = .ok p.isNone w := equalIn_sl 9999 ht
  rcases hop with rfl | rfl <;> cases p <;> simp [Tells, execOp, ho, hx, he, hg, Go.binOp, hq]

theorem go_isnil (hs : Sim w0 F0 X0 s L a w) {op : BinOp} {t e u : TypeId} {x : Operand} {neg : Bool} (ho : o.op = .binOp op t x (.const (.slice none 0 0)) u) (ht : P.underlying t = some (.slice e)) (hop : (op = .eql ∧ neg = false) ∨ (op = .neq ∧ neg = true))
    {x' : O} (hx : resO x = some x') (hK : evI C (.isnil neg x') s K) : Goes P w0 F0 X0 L o a w K := by
  have hr := resO_sound hs hx
  simp only [evI] at hK
  have fin : ∀ (p : Option Addr) (n cap : Nat), a.eval x = .slice p n cap → K (.bool (if op = .neq then p.isSome else p.isNone)) s.m → Goes P w0 F0 X0 L o a w K := by
    intro p n cap e h
    exact goes_tells hs h ⟨_, tells_isnil ho ht e (hop.imp And.left And.left), .bool _⟩
  cases hv : x'.get s <;> simp only [hv, nilQ] at hK
  · rw [hv] at hr
    obtain ⟨p, e⟩ := hr.nil_inv
    exact fin p 0 0 e (hK _)
  · rename_i k l
    rw [hv] at hr
    obtain ⟨p, cap, b, off, Cf, e, _, _, h3, _⟩ := hr.sl_inv
    refine fin p _ _ e ?_
    cases p with
    | none =>
      have hl : l = [] := by
        by_cases hl : l = []
        · exact hl
        · exact absurd (h3 hl).1 (by simp)
      rcases hop with ⟨rfl, rfl⟩ | ⟨rfl, rfl⟩
      · exact hK.1 hl
      · exact hK.1 hl
    | some p =>
      rcases hop with ⟨rfl, rfl⟩ | ⟨rfl, rfl⟩
      · exact hK.2
      · exact hK.2
  · rename_i id v lo len
    rw [hv] at hr
    cases hm : bnth s.m id with
    | dead => simp only [hm] at hK
    | cells cs => simp only [hm] at hK
    | row v' k l =>
      simp only [hm] at hK
      cases he : eqN v v' with
      | false => simp only [he] at hK
      | true =>
        simp only [he] at hK
        have both : ∀ (p : Option Addr) (n cap : Nat), a.eval x = .slice p n cap → (p = none → len = 0) → Goes P w0 F0 X0 L o a w K := by
          intro p n cap e hp
          refine fin p _ _ e ?_
          cases p with
          | none =>
            rcases hop with ⟨rfl, rfl⟩ | ⟨rfl, rfl⟩
            · exact hK.1 (hp rfl)
            · exact hK.1 (hp rfl)
          | some p =>
            rcases hop with ⟨rfl, rfl⟩ | ⟨rfl, rfl⟩
            · exact hK.2
            · exact hK.2
        rcases hr.ms_inv with ⟨b, n', cap, ex, _⟩ | ⟨n', A, _, h0, ex, _⟩ | ⟨b, off, n', ⟨h0, _⟩, ex, _⟩
        · exact both _ _ _ ex (by simp)
        · exact both _ _ _ ex (fun _ => h0)
        · exact both _ _ _ ex (by simp)

theorem go_un (hs : Sim w0 F0 X0 s L a w) {op : UnOp} {t : TypeId} {x : Operand} (ho : o.op = .unOp op t x) {x' : O} (hx : resO x = some x') (hop : op = .not ∨ op = .neg ∨ op = .xor) (hK : evI C (.un op x') s K) : Goes P w0 F0 X0 L o a w K := by
  have hr := resO_sound hs hx
  simp only [evI, stepI] at hK
  rcases hop with rfl | rfl | rfl
  · cases hv : x'.get s <;> simp only [hv] at hK
    rw [hv] at hr
    exact goes_tells hs hK ⟨_, tells_not ho hr.bool_inv, .bool _⟩
  · cases hv : x'.get s <;> simp only [hv] at hK
    rw [hv] at hr
    exact goes_tells hs hK ⟨_, tells_neg ho hr.int_inv.1, .int _ _ (wrap_inK _ _)⟩
  · cases hv : x'.get s <;> simp only [hv] at hK
    rw [hv] at hr
    exact goes_tells hs hK ⟨_, tells_xor ho hr.int_inv.1, .int _ _ (wrap_inK _ _)⟩

theorem go_conv (hs : Sim w0 F0 X0 s L a w) {src dst : TypeId} {x : Operand} {k ks : IntKind} (ho : o.op = .convert src dst x) (h1 : P.underlying src = some (.int ks)) (h2 : P.underlying dst = some (.int k)) {x' : O} (hx : resO x = some x') (hK : evI C (.conv k x') s K) : Goes P w0 F0 X0 L o a w K := by
  have hr := resO_sound hs hx
  simp only [evI, stepI] at hK
  cases hv : x'.get s <;> simp only [hv] at hK
  rw [hv] at hr
  exact goes_tells hs hK ⟨_, tells_conv ho h1 h2 hr.int_inv.1, .int _ _ (wrap_inK _ _)⟩

theorem go_strv (hs : Sim w0 F0 X0 s L a w) {src dst : TypeId} {x : Operand} (ho : o.op = .convert src dst x) (h1 : P.underlying src = some .string) (h2 : P.underlying dst = some .string) {x' : O} (hx : resO x = some x') (hK : evI C (.strv x') s K) : Goes P w0 F0 X0 L o a w K := by
  have hr := resO_sound hs hx
  simp only [evI, stepI] at hK
  cases hv : x'.get s <;> simp only [hv] at hK
  rw [hv] at hr
  exact goes_tells hs hK ⟨_, tells_conv_str ho h1 h2 hr.str_inv.1, .str _ hr.str_inv.2⟩

theorem go_b2s (hs : Sim w0 F0 X0 s L a w) {src dst e : TypeId} {x : Operand} (ho : o.op = .convert src dst x) (h1 : P.underlying src = some (.slice e)) (he : P.underlying e = some (.int .u8)) (h2 : P.underlying dst = some .string) {x' : O} (hx : resO x = some x') (hK : evI C (.b2s x') s K) : Goes P w0 F0 X0 L o a w K := by
  have hr := resO_sound hs hx
  simp only [evI, stepI] at hK
  cases hv : asList .u8 s.m (x'.get s) with
  | none => simp only [hv] at hK
  | some l =>
    simp only [hv] at hK
    obtain ⟨p, cap, b, off, Cf, hrd⟩ := as_read hs.mem hr hv
    exact goes_tells hs hK ⟨_, tells_b2s (V := .nilIface) ho h1 he h2 hrd, .str _ hrd.len⟩

theorem go_s2b (hs : Sim w0 F0 X0 s L a w) {src dst e : TypeId} {x : Operand} (ho : o.op = .convert src dst x) (h1 : P.underlying src = some .string) (h2 : P.underlying dst = some (.slice e)) (he : P.underlying e = some (.int .u8)) (hk : kdT P kt e = some .u8) {x' : O} (hx : resO x = some x') (hK : evI C (.s2b x') s K) : Goes P w0 F0 X0 L o a w K := by
  have hr := resO_sound hs hx
  simp only [evI, stepI] at hK
  cases hv : x'.get s <;> simp only [hv] at hK
  rename_i b
  rw [hv] at hr
  obtain ⟨ex, hb⟩ := hr.str_inv
  have hd := tells_s2b (P := P) (w := w) ho h1 h2 he ex
  have hcap := grownCap_ge w b.size 0 e
  have hcap2 := grownCap_le_maxLen w b.size 0 e hb
  have hl : (bytesOf b).length = b.size := by simp [bytesOf]
  have hrs : (bytesRow b (grownCap w b.size 0 e)).size = grownCap w b.size 0 e := by
    simp [bytesRow]
    omega
  obtain ⟨L', h1, h2, h3⟩ := push_row hs.mem (w1 := w.drew) (k := .u8) (l := bytesOf b) (C := bytesRow b (grownCap w b.size 0 e)) (t := e) (z := ((bytesRow b (grownCap w b.size 0 e)).size, (bytesRow b (grownCap w b.size 0 e)).size + 1)) (cap := grownCap w b.size 0 e)
    rfl rfl rfl rfl (by rw [hrs]; simp [wid]) ⟨by omega, hcap2⟩ (fun o ho h => by have := h.1; simp at this; omega) (fun i y hy j hj => by
      obtain rfl : j = 0 := by simp [wid] at hj; omega
      have hi : i < b.size := by
        have := (List.getElem?_eq_some_iff.1 hy).1
        omega
      have hy' : b.data.toList[i]? = some y := hy
      have : (bytesRow b (grownCap w b.size 0 e)).getD (i * wid .u8 + 0) Go.undef = .int .u8 y.toNat := by
        simp only [wid, Nat.mul_one, Nat.add_zero]
        apply getD_of
        simp only [bytesRow]
        rw [← Array.getElem?_toList]
        simp
        rw [List.getElem?_append_left (by simp [byteCells]; exact hi)]
        simp only [byteCells, List.getElem?_map, hy']
        rfl
      rw [this]
      refine .int _ _ ?_
      have := y.toNat_lt
      have e1 : IntKind.u8.min = 0 := by decide
      have e2 : IntKind.u8.max = 255 := by decide
      exact ⟨by omega, by omega⟩)
  rw [hl] at h3
  exact ⟨_, _, _, _, _, hK, hd, h1, h2, h3⟩

end ops

end Go.Proofs.Ytnghlmogcbmlfaa
