/- One operation, on: cuts, places, parts, what is built. -/
import Derived.Test.YtnghlmogcbmlfaaAmP
namespace Go.Proofs.Ytnghlmogcbmlfaa
set_option linter.unusedVariables false
set_option linter.unusedSimpArgs false

section ops
variable {P : Program} {kt : KT} {w0 : World} {F0 X0 : Nat → Prop} {m : List Blk} {L : List LB} {a : Act} {w : World} {o : Oper} {Z : Nat → Prop} {s : St} {C : Tab} {how : How} {i : AI} {K : AV → List Blk → Prop}

theorem optO_sound (hs : Sim w0 F0 X0 s L a w) {x : Option Operand} {y : Option O} (h : resI.optO x = some y) :
    ∀ n d, bnd d (y.map (O.get s)) = some n → (x.map a.eval = none ∧ n = d) ∨ ∃ k, x.map a.eval = some (.int k n) := by
  intro n d hb
  refine bnd_inv hb (w := w) (L := L) (Z := ZZ X0 L) (fun v hv => ?_) (fun hv => ?_)
  · cases x with
    | none =>
      simp only [resI.optO, Option.some.injEq] at h
      subst h
      simp at hv
    | some x =>
      simp only [resI.optO] at h
      cases hx : resO x with
      | none => simp [hx] at h
      | some z =>
        simp only [hx, Option.some.injEq] at h
        subst h
        simp only [Option.map_some, Option.some.injEq] at hv
        subst hv
        exact ⟨_, rfl, resO_sound hs hx⟩
  · cases x with
    | none => rfl
    | some x =>
      simp only [resI.optO] at h
      cases hx : resO x with
      | none => simp [hx] at h
      | some z =>
        simp only [hx, Option.some.injEq] at h
        subst h
        simp at hv

theorem go_slc (hs : Sim w0 F0 X0 s L a w) {t e : TypeId} {x : Operand} {lo hi : Option Operand} {k : Kd} (ho : o.op = .slice t x lo hi none) (ht : P.underlying t = some (.slice e)) (hk : kdT P kt e = some k)
    {x' : O} {lo' hi' : Option O} (hx : resO x = some x') (h1 : resI.optO lo = some lo') (h2 : resI.optO hi = some hi') (hK : evI C (.slc k x' lo' hi') s K) : Goes P w0 F0 X0 L o a w K := by
  simp only [evI, stepI] at hK
  obtain ⟨v, hv, hK⟩ := ev_v hK
  exact goes_tells hs hK (tells_slc ho ht hk (resO_sound hs hx) (optO_sound hs h1) (optO_sound hs h2) hv rfl hs rfl)

theorem go_sl0 (hs : Sim w0 F0 X0 s L a w) {t e : TypeId} {x : Operand} {lo : Option Operand} {k : Kd} (ho : o.op = .slice t x lo (some (.const (.int .i64 0))) (some (.const (.int .i64 0)))) (hlo : lo = none ∨ lo = some (.const (.int .i64 0)))
    (ht : P.underlying t = some (.slice e)) (hk : kdT P kt e = some k) {x' : O} (hx : resO x = some x') (hK : evI C (.sl0 x') s K) : Goes P w0 F0 X0 L o a w K := by
  have hr := resO_sound hs hx
  simp only [evI, stepI] at hK
  cases hv : x'.get s <;> simp only [hv] at hK
  · rw [hv] at hr
    exact goes_tells hs hK (tells_sl0 ho hlo ht hk hr (.inl rfl))
  · rw [hv] at hr
    exact goes_tells hs hK (tells_sl0 ho hlo ht hk hr (.inr (.inl ⟨_, _, rfl⟩)))
  · rw [hv] at hr
    exact goes_tells hs hK (tells_sl0 ho hlo ht hk hr (.inr (.inr ⟨_, _, _, _, rfl⟩)))

theorem go_sls (hs : Sim w0 F0 X0 s L a w) {t : TypeId} {x : Operand} {lo hi : Option Operand} (ho : o.op = .slice t x lo hi none) (ht : P.underlying t = some .string)
    {x' : O} {lo' hi' : Option O} (hx : resO x = some x') (h1 : resI.optO lo = some lo') (h2 : resI.optO hi = some hi') (hK : evI C (.sls x' lo' hi') s K) : Goes P w0 F0 X0 L o a w K := by
  have hr := resO_sound hs hx
  simp only [evI, stepI] at hK
  obtain ⟨v, hv, hK⟩ := ev_v hK
  cases he : x'.get s <;> simp only [he, slsA] at hv <;> try (simp at hv; done)
  rename_i b
  rw [he] at hr
  obtain ⟨ex, hb⟩ := hr.str_inv
  cases hp : bnd 0 (lo'.map (O.get s)) with
  | none => simp [hp] at hv
  | some p =>
    cases hq : bnd (b.size : Int) (hi'.map (O.get s)) with
    | none => simp [hp, hq] at hv
    | some q =>
      simp only [hp, hq] at hv
      split at hv
      · rename_i hc
        simp only [Option.some.injEq] at hv
        subst hv
        refine goes_tells hs hK ⟨_, tells_sls (Y1 := none) (Y2 := none) ho ht ex (optO_sound hs h1 _ _ hp) (optO_sound hs h2 _ _ hq) hc.1 hc.2.1 hc.2.2, .str _ ?_⟩
        rw [ByteArray.size_extract]
        omega
      · simp at hv

theorem go_fa (hs : Sim w0 F0 X0 s L a w) {t : TypeId} {x : Operand} {f n : Nat} {fs : Array Field} {fd : Field} (ho : o.op = .fieldAddr t x f) (ht : P.underlying t = some (.struct fs)) (hf : fs[f]? = some fd) (hn : sizeT P fd.type = some n) (hn0 : n ≠ 0)
    {x' : O} (hx : resO x = some x') (hK : evI C (.fa fd.offset x') s K) : Goes P w0 F0 X0 L o a w K := by
  simp only [evI, stepI] at hK
  obtain ⟨v, m', hv, hK⟩ := ev_step hK
  have hr := resO_sound hs hx
  cases he : x'.get s <;> simp only [he] at hv <;> try (simp at hv; done)
  all_goals
    rw [he] at hr
    obtain ⟨e, hT⟩ := tells_fieldAddr hs ho ht hf hn hn0 hr (m' := m') (v := v) hv
    subst e
    exact goes_tells hs hK hT

theorem go_fd (hs : Sim w0 F0 X0 s L a w) {t : TypeId} {x : Operand} {f n : Nat} {fs : Array Field} {fd : Field} {g : Bool} (ho : o.op = .field t x f) (ht : P.underlying t = some (.struct fs)) (hf : fs[f]? = some fd) (hg : aggT P fd.type = some g) (hn : sizeT P fd.type = some n)
    {x' : O} (hx : resO x = some x') (hK : evI C (.fd g fd.offset n x') s K) : Goes P w0 F0 X0 L o a w K := by
  have hr := resO_sound hs hx
  simp only [evI, stepI] at hK
  cases he : x'.get s <;> simp only [he] at hK
  rename_i cs
  rw [he] at hr
  obtain ⟨v, hv, hK⟩ := ev_v hK
  exact goes_tells hs hK (tells_fd ho ht hf hg hn hr hv)

theorem go_ia (hs : Sim w0 F0 X0 s L a w) {t e : TypeId} {x j : Operand} {k : Kd} (ho : o.op = .indexAddr t x j) (ht : P.underlying t = some (.slice e)) (hk : kdT P kt e = some k) {x' j' : O} (hx : resO x = some x') (hj : resO j = some j') (hK : evI C (.ia k x' j') s K) : Goes P w0 F0 X0 L o a w K := by
  simp only [evI, stepI] at hK
  obtain ⟨v, hv, hK⟩ := ev_v hK
  exact goes_tells hs hK (tells_ia hs ho ht hk (resO_sound hs hx) (resO_sound hs hj) hv)

theorem go_iaa (hs : Sim w0 F0 X0 s L a w) {t e : TypeId} {x j : Operand} {n len : Nat} (ho : o.op = .indexAddr t x j) (ht : P.underlying t = some (.array len e)) (hn : sizeT P e = some n) {x' j' : O} (hx : resO x = some x') (hj : resO j = some j') (hK : evI C (.iaa n len x' j') s K) : Goes P w0 F0 X0 L o a w K := by
  have hr := resO_sound hs hx
  have hq := resO_sound hs hj
  simp only [evI, stepI] at hK
  obtain ⟨v, m', hv, hK⟩ := ev_step hK
  cases he : x'.get s <;> cases hu : j'.get s <;> simp only [he, hu] at hv <;> try (simp at hv; done)
  · rename_i cs off k I
    rw [he] at hr
    rw [hu] at hq
    split at hv
    · rename_i hc
      simp only [Option.some.injEq, Prod.mk.injEq] at hv
      obtain ⟨rfl, rfl⟩ := hv
      exact goes_tells hs hK (tells_iaa (j := 0) (ki := 0) ho ht hn hr hq.int_inv.1 hc.1 hc.2 rfl)
    · simp at hv
  · rename_i id off k I
    rw [he] at hr
    rw [hu] at hq
    split at hv
    · rename_i hc
      simp only [Option.some.injEq, Prod.mk.injEq] at hv
      obtain ⟨rfl, rfl⟩ := hv
      exact goes_tells hs hK (tells_iaa (j := 0) (ki := 0) ho ht hn hr hq.int_inv.1 hc.1 hc.2 rfl)
    · simp at hv

theorem go_ix (hs : Sim w0 F0 X0 s L a w) {t e : TypeId} {x j : Operand} {n len : Nat} {g : Bool} (ho : o.op = .index t x j) (ht : P.underlying t = some (.array len e)) (hg : aggT P e = some g) (hn : sizeT P e = some n) {x' j' : O} (hx : resO x = some x') (hj : resO j = some j') (hK : evI C (.ix g n len x' j') s K) : Goes P w0 F0 X0 L o a w K := by
  have hr := resO_sound hs hx
  have hq := resO_sound hs hj
  simp only [evI, stepI] at hK
  cases he : x'.get s <;> cases hu : j'.get s <;> simp only [he, hu] at hK
  rename_i cs k I
  rw [he] at hr
  rw [hu] at hq
  split at hK
  · rename_i v m' hv
    split at hv
    · rename_i hc
      cases hm : mkV g n (cut (I.toNat * n) n cs) with
      | none => simp [hm] at hv
      | some u =>
        simp only [hm, Option.some.injEq, Prod.mk.injEq] at hv
        obtain ⟨rfl, rfl⟩ := hv
        exact goes_tells hs hK (tells_ix ho ht hg hn hr hq.int_inv.1 hc.1 hc.2 hm)
    · simp at hv
  · exact hK.elim

theorem go_ixs (hs : Sim w0 F0 X0 s L a w) {t : TypeId} {x j : Operand} (ho : o.op = .index t x j) (ht : P.underlying t = some .string) {x' j' : O} (hx : resO x = some x') (hj : resO j = some j') (hK : evI C (.ixs x' j') s K) : Goes P w0 F0 X0 L o a w K := by
  have hr := resO_sound hs hx
  have hq := resO_sound hs hj
  simp only [evI, stepI] at hK
  obtain ⟨v, m', hv, hK⟩ := ev_step hK
  cases he : x'.get s <;> cases hu : j'.get s <;> simp only [he, hu] at hv <;> try (simp at hv; done)
  rename_i b k I
  rw [he] at hr
  rw [hu] at hq
  split at hv
  · rename_i hc
    cases hb : (bytesOf b)[I.toNat]? with
    | none => simp [hb] at hv
    | some c =>
      simp only [hb, Option.some.injEq, Prod.mk.injEq] at hv
      obtain ⟨rfl, rfl⟩ := hv
      refine goes_tells hs hK ⟨_, tells_ixs ho ht hr.str_inv.1 hq.int_inv.1 hc hb, .int _ _ ?_⟩
      have := c.toNat_lt
      have e1 : IntKind.u8.min = 0 := by decide
      have e2 : IntKind.u8.max = 255 := by decide
      exact ⟨by omega, by omega⟩
  · simp at hv

theorem go_ex (hs : Sim w0 F0 X0 s L a w) {x : Operand} {j : Nat} (ho : o.op = .extract x j) {x' : O} (hx : resO x = some x') (hK : evI C (.ex j x') s K) : Goes P w0 F0 X0 L o a w K := by
  have hr := resO_sound hs hx
  simp only [evI, stepI] at hK
  cases he : x'.get s <;> simp only [he] at hK
  rename_i vs
  rw [he] at hr
  cases hj : vs[j]? with
  | none => simp only [hj] at hK
  | some v =>
    simp only [hj] at hK
    obtain ⟨Cs, ex, hsz, hrr⟩ := hr.tup_inv
    have hlt := (List.getElem?_eq_some_iff.1 hj).1
    have hlt' : j < Cs.size := by omega
    have := hrr j hlt
    rw [nth_of hj] at this
    refine goes_tells hs hK ⟨_, tells_extract ho ex (V := Cs.getD j Go.undef) ?_, this⟩
    simp [Array.getElem?_eq_getElem hlt', Array.getD_eq_getD_getElem?]

theorem go_mf (hs : Sim w0 F0 X0 s L a w) {f : FuncId} {caps : Array Operand} (ho : o.op = .makeFunc (.func f) #[] caps) {ys : List O} (hx : mapO resO caps.toList = some ys) (hK : K (.fn f (ys.map (O.get s))) s.m) : Goes P w0 F0 X0 L o a w K := by
  obtain ⟨h1, h2⟩ := mapO_resO hs hx
  refine goes_tells hs hK ⟨_, tells_makeFunc ho, .fn f _ _ (by simp [h1]) (fun j hj => ?_)⟩
  have hj' : j < caps.toList.length := by simpa [h1] using hj
  have := h2 j hj'
  have e : (caps.map a.eval).getD j Go.undef = (caps.toList.map a.eval)[j]?.getD Go.undef := by simp [Array.getD_eq_getD_getElem?]
  rw [e]
  exact this

theorem go_len (hs : Sim w0 F0 X0 s L a w) {c : Call} {x : Operand} {t e : TypeId} (ho : o.op = .call c) (hc : c.callee = .builtin .len) (ha : c.args = #[x]) (hat : c.argTypes = #[t]) (ht : P.underlying t = some (.slice e)) {x' : O} (hx : resO x = some x') (hK : evI C (.len x') s K) : Goes P w0 F0 X0 L o a w K := by
  simp only [evI, stepI] at hK
  obtain ⟨v, hv, hK⟩ := ev_v hK
  exact goes_tells hs hK (tells_len hs ho hc ha hat ht (resO_sound hs hx) hv)

theorem go_lens (hs : Sim w0 F0 X0 s L a w) {c : Call} {x : Operand} {t : TypeId} (ho : o.op = .call c) (hc : c.callee = .builtin .len) (ha : c.args = #[x]) (hat : c.argTypes = #[t]) (ht : P.underlying t = some .string) {x' : O} (hx : resO x = some x') (hK : evI C (.lens x') s K) : Goes P w0 F0 X0 L o a w K := by
  have hr := resO_sound hs hx
  simp only [evI, stepI] at hK
  cases he : x'.get s <;> simp only [he] at hK
  rw [he] at hr
  exact goes_tells hs hK (tells_lens ho hc ha hat ht hr)

theorem go_app (hs : Sim w0 F0 X0 s L a w) {t tx e e' : TypeId} {k : Kd} {x y : Operand} {c : Call} (h : o.op = .call c) (hc : c.callee = .builtin .append) (ha : c.args = #[x, y]) (hat : c.argTypes = #[t, tx])
    (ht : P.underlying t = some (.slice e)) (htx : P.underlying tx = some (.slice e')) (hk : kdT P kt e = some k) {x' y' : O} (hx : resO x = some x') (hy : resO y = some y') (hK : evI C (.app k x' y') s K) : Goes P w0 F0 X0 L o a w K := by
  simp only [evI, stepI] at hK
  cases he : asList k s.m (y'.get s) with
  | none => simp only [he] at hK
  | some ys =>
    simp only [he] at hK
    obtain ⟨v, m', hv, hK⟩ := ev_step hK
    obtain ⟨p, cap, b, off, Cf, hrd⟩ := as_read hs.mem (resO_sound hs hy) he
    obtain ⟨news, hadd⟩ := adds_slice htx hrd
    obtain ⟨V, w', L', d1, d2, d3, d4⟩ := app_sound hs.mem (ty := 0) h hc ha hat ht hk (resO_sound hs hx) hadd hv
    exact ⟨_, _, _, _, _, hK, d1, d2, d3, d4⟩

theorem go_apps (hs : Sim w0 F0 X0 s L a w) {t tx e : TypeId} {x y : Operand} {c : Call} (h : o.op = .call c) (hc : c.callee = .builtin .append) (ha : c.args = #[x, y]) (hat : c.argTypes = #[t, tx])
    (ht : P.underlying t = some (.slice e)) (htx : P.underlying tx = some .string) (hk : kdT P kt e = some .u8) {x' y' : O} (hx : resO x = some x') (hy : resO y = some y') (hK : evI C (.apps x' y') s K) : Goes P w0 F0 X0 L o a w K := by
  have hr := resO_sound hs hy
  simp only [evI, stepI] at hK
  cases he : y'.get s <;> simp only [he] at hK
  rename_i b
  rw [he] at hr
  obtain ⟨v, m', hv, hK⟩ := ev_step hK
  have hadd : Adds P w L (ZZ X0 L) tx .u8 (a.eval y) (bytesOf b) (byteCells b) := by
    rw [hr.str_inv.1]
    exact adds_string htx
  obtain ⟨V, w', L', d1, d2, d3, d4⟩ := app_sound hs.mem (ty := 0) h hc ha hat ht hk (resO_sound hs hx) hadd hv
  exact ⟨_, _, _, _, _, hK, d1, d2, d3, d4⟩

theorem go_mx (hs : Sim w0 F0 X0 s L a w) {x : Operand} {xs : List Operand} {c : Call} (h : o.op = .call c) (hc : c.callee = .builtin .max) (ha : c.args.toList = x :: xs) {x' : O} {ys : List O} (hx : resO x = some x') (hy : mapO resO xs = some ys) (hK : evI C (.mx x' ys) s K) : Goes P w0 F0 X0 L o a w K := by
  simp only [evI, stepI] at hK
  obtain ⟨v, hv, hK⟩ := ev_v hK
  obtain ⟨h1, h2⟩ := mapO_resO hs hy
  obtain ⟨V, h3, h4⟩ := maxA_run (P := P) (ys.map (O.get s)) (x'.get s) (a.eval x) (xs.map a.eval) v (resO_sound hs hx) (by simp [h1]) (fun j hj => h2 j (by simpa [h1] using hj)) hv
  refine goes_tells hs hK ⟨V, ?_, h4⟩
  have hm : (c.args.map a.eval).toList = a.eval x :: xs.map a.eval := by simp [ha]
  simp [Tells, execOp, h, resolve, hc, invoke, builtin, Builtin.max_, hm, h3, ha]

theorem go_mn (hs : Sim w0 F0 X0 s L a w) {x : Operand} {xs : List Operand} {c : Call} (h : o.op = .call c) (hc : c.callee = .builtin .min) (ha : c.args.toList = x :: xs) {x' : O} {ys : List O} (hx : resO x = some x') (hy : mapO resO xs = some ys) (hK : evI C (.mn x' ys) s K) : Goes P w0 F0 X0 L o a w K := by
  simp only [evI, stepI] at hK
  obtain ⟨v, hv, hK⟩ := ev_v hK
  obtain ⟨h1, h2⟩ := mapO_resO hs hy
  obtain ⟨V, h3, h4⟩ := minA_run (P := P) (ys.map (O.get s)) (x'.get s) (a.eval x) (xs.map a.eval) v (resO_sound hs hx) (by simp [h1]) (fun j hj => h2 j (by simpa [h1] using hj)) hv
  refine goes_tells hs hK ⟨V, ?_, h4⟩
  have hm : (c.args.map a.eval).toList = a.eval x :: xs.map a.eval := by simp [ha]
  simp [Tells, execOp, h, resolve, hc, invoke, builtin, Builtin.min_, hm, h3, ha]

theorem go_mk (hs : Sim w0 F0 X0 s L a w) {t e : TypeId} {x y : Operand} {k : Kd} {z : AV} {zk : T k} (ho : o.op = .makeSlice t x y) (ht : P.underlying t = some (.slice e)) (hk : kdT P kt e = some k) (hz : zeroT P e = some z) (hd : dec k (cellsOf z) = some zk)
    {x' y' : O} (hx : resO x = some x') (hy : resO y = some y') (hK : evI C (.mk k zk x' y') s K) : Goes P w0 F0 X0 L o a w K := by
  have hr := resO_sound hs hx
  have hq := resO_sound hs hy
  simp only [evI, stepI] at hK
  obtain ⟨v, m', hv, hK⟩ := ev_step hK
  cases he : x'.get s <;> cases hu : y'.get s <;> simp only [he, hu] at hv <;> try (simp at hv; done)
  rename_i K1 l K2 c
  rw [he] at hr
  rw [hu] at hq
  split at hv
  · rename_i hc
    simp only [Option.some.injEq, Prod.mk.injEq] at hv
    obtain ⟨rfl, rfl⟩ := hv
    obtain ⟨i, zv, hi, hsz, hby, hz2, hzs, _⟩ := kdT_some hk
    have hdo := tells_mk (P := P) (w := w) (k := k) ho ht hi hz2 hby hr.int_inv.1 hq.int_inv.1 hc.1 hc.2.1 hc.2.2
    have hzr : RepV w L (ZZ X0 L) z zv := by
      unfold zeroT at hz
      simp only [hi, hz2] at hz
      exact constA_sound 3 zv z hz
    obtain ⟨c1, c2⟩ := cells_rel hzr
    have hzc : enc k zk = cellsOf z := dec_enc hd
    have hmc : (madeCells zv.cells (c.toNat * i.size)).size = c.toNat * wid k := by simp [madeCells, hsz]
    have hmost : (most : Nat) = 1099511627776 := rfl
    have hcm : c.toNat ≤ maxLen := by unfold maxLen; rw [hmost] at hc; omega
    have hle : l.toNat ≤ c.toNat := by omega
    obtain ⟨L', g1, g2, g3⟩ := push_row hs.mem (w1 := w) (k := k) (l := List.replicate l.toNat zk) (C := madeCells zv.cells (c.toNat * i.size)) (t := e) (z := (0, 0)) (cap := c.toNat) rfl rfl rfl rfl (by omega) ⟨by simp; omega, hcm⟩ (NoMark.zero _) (fun j y hy q hq => by
      obtain ⟨hj1, hj2⟩ := List.getElem?_eq_some_iff.1 hy
      simp only [List.getElem_replicate] at hj2
      subst hj2
      simp only [List.length_replicate] at hj1
      have hlt : j * zv.cells.size + q < c.toNat * i.size := by
        rw [hzs, hsz]
        have : (j + 1) * wid k ≤ c.toNat * wid k := Nat.mul_le_mul_right _ (by omega)
        rw [Nat.add_mul] at this
        omega
      have := madeCells_get hlt (by omega)
      rw [hzs] at this
      rw [this, hzc]
      exact c2 q (by rw [← c1]; omega))
    rw [List.length_replicate] at g3
    exact ⟨_, _, _, _, _, hK, hdo, g1, g2, g3⟩
  · simp at hv

theorem go_slit (hs : Sim w0 F0 X0 s L a w) {t e : TypeId} {k : Kd} {n : Nat} {ps : Array (Nat × Operand)} (ho : o.op = .buildSlice t n ps) (ht : P.underlying t = some (.slice e)) (hk : kdT P kt e = some k) (hm : isMany ps = true) (hn : ps.size = n) (hb : n ≤ 4096)
    {ys : List O} (hx : mapO (fun (p : Nat × Operand) => resO p.2) ps.toList = some ys) (hK : evI C (.slit k ys) s K) : Goes P w0 F0 X0 L o a w K := by
  simp only [evI, stepI] at hK
  obtain ⟨v, m', hv, hK⟩ := ev_step hK
  cases he : elemsA k (ys.map (O.get s)) s.m with
  | none => simp [he] at hv
  | some q =>
    obtain ⟨l, m1⟩ := q
    simp only [he, Option.some.injEq, Prod.mk.injEq] at hv
    obtain ⟨rfl, rfl⟩ := hv
    obtain ⟨h1, h2⟩ := mapO_some hx
    have hrep : ∀ j, j < (ys.map (O.get s)).length → RepV w L (ZZ X0 L) (nth (ys.map (O.get s)) j) ((ps.toList.map fun p => a.eval p.2)[j]?.getD Go.undef) := by
      intro j hj
      have hj' : j < ps.toList.length := by simpa [h1] using hj
      obtain ⟨y, hy, hf⟩ := h2 j ps.toList[j] (List.getElem?_eq_getElem hj')
      have e1 : nth (ys.map (O.get s)) j = y.get s := nth_of (by simp [hy])
      rw [e1]
      simp only [List.getElem?_map, List.getElem?_eq_getElem hj', Option.map_some, Option.getD_some]
      exact resO_sound hs hf
    obtain ⟨q1, q2, L1, q3, q4, q5⟩ := elems_sound (ys.map (O.get s)) s.m L l m1 (ps.toList.map fun p => a.eval p.2) hs.mem he (by simp [h1]) hrep
    obtain ⟨Cs, d1, d2, d3⟩ := tells_slit (a := a) (w := w) ho ht hk hm hn hb (fun p hp => q2 _ (List.mem_map.2 ⟨p, hp, rfl⟩))
    have hll : l.length = n := by rw [q1]; simp [h1]; exact hn
    obtain ⟨L', g1, g2, g3⟩ := push_row q3 (w1 := w) (k := k) (l := l) (C := Cs) (t := e) (z := (0, 0)) (cap := n) rfl rfl rfl rfl (by omega) ⟨by omega, by unfold maxLen; omega⟩ (NoMark.zero _) (fun j x hx q hq => by
      have hj := (List.getElem?_eq_some_iff.1 hx).1
      have hj' : j < ps.toList.length := by
        have : ps.toList.length = n := by simpa using hn
        omega
      have := q5 j x hx q hq
      rw [d3 j ps.toList[j] (List.getElem?_eq_getElem hj') q hq]
      rw [List.getElem?_map, List.getElem?_eq_getElem hj'] at this
      exact this)
    rw [hll] at g3
    rw [hll] at hK
    exact ⟨_, _, _, _, _, hK, d1, g1, q4.trans g2, g3⟩
  
/-- Parts that are laid into a value. -/
theorem fill_rel {place : Nat → Option (Nat × Nat)} : ∀ (ps : List (Nat × Value)) (qs : List (Nat × Nat × AV)) (cs out : List AV) (Cs : Array Value), Cs.size = cs.length → (∀ j, j < cs.length → RepV w L Z (nth cs j) (Cs.getD j Go.undef)) →
    qs.length = ps.length → (∀ (i : Nat) (p : Nat × Value) (q : Nat × Nat × AV), ps[i]? = some p → qs[i]? = some q → place p.1 = some (q.1, q.2.1) ∧ RepV w L Z q.2.2 p.2) → fillA cs qs = some out →
    ∃ Out, Instr.fill place Cs ps = some Out ∧ Out.size = out.length ∧ ∀ j, j < out.length → RepV w L Z (nth out j) (Out.getD j Go.undef) := by
  intro ps
  induction ps with
  | nil =>
    intro qs cs out Cs h1 h2 h3 _ h5
    obtain rfl := List.length_eq_zero_iff.1 h3
    simp only [fillA, Option.some.injEq] at h5
    subst h5
    exact ⟨Cs, rfl, h1, h2⟩
  | cons p ps ih =>
    intro qs cs out Cs h1 h2 h3 h4 h5
    cases qs with
    | nil => simp at h3
    | cons q qs =>
      obtain ⟨off, n, v⟩ := q
      obtain ⟨i, V⟩ := p
      obtain ⟨g1, g2⟩ := h4 0 _ _ rfl rfl
      simp only at g1 g2
      simp only [fillA] at h5
      cases hl : eqN (cellsOf v).length n with
      | false => simp [hl] at h5
      | true =>
        have hln := eqN_iff.1 hl
        simp only [hl] at h5
        split at h5
        · rename_i hle
          obtain ⟨c1, c2⟩ := cells_rel g2
          obtain ⟨f1, f2⟩ := fold_cells off V.cells Cs (by omega)
          have hsp := splice_nth cs off (cellsOf v)
          obtain ⟨Out, o1, o2, o3⟩ := ih qs (splice cs off (cellsOf v)) out (V.cells.zipIdx.foldl (fun cs (p : Value × Nat) => cs.setIfInBounds (off + p.2) p.1) Cs) (by rw [f1, splice_length, h1]) (fun j hj => by
            rw [splice_length] at hj
            rw [hsp j (by omega), f2 j]
            by_cases hc : off ≤ j ∧ j < off + (cellsOf v).length
            · rw [if_pos hc, if_pos ⟨hc.1, by omega⟩]
              exact c2 _ (by omega)
            · rw [if_neg hc, if_neg (by omega)]
              exact h2 j hj) (by simpa using h3) (fun i p q hp hq => h4 (i + 1) p q (by simpa using hp) (by simpa using hq)) h5
          refine ⟨Out, ?_, o2, o3⟩
          simp only [Instr.fill, g1]
          rw [if_neg (by simp; omega)]
          exact o1
        · simp at h5

theorem places_run {fs : Array Field} (h : fs.toList.all (fun f => (sizeT P f.type).isSome) = true) : ∃ pl : Array (Nat × Nat), (fs.mapM (m := Sem) fun f => Prod.mk f.offset <$> sizeOf f.type).run P w = .ok pl w ∧ ∀ (i : Nat) (f : Field) (n : Nat), fs[i]? = some f → sizeT P f.type = some n → pl[i]? = some (f.offset, n) := by
  have key : ∀ (l : List Field), l.all (fun f => (sizeT P f.type).isSome) = true → ∃ pl : List (Nat × Nat), (l.mapM (m := Sem) fun f => Prod.mk f.offset <$> sizeOf f.type).run P w = .ok pl w ∧ ∀ (i : Nat) (f : Field) (n : Nat), l[i]? = some f → sizeT P f.type = some n → pl[i]? = some (f.offset, n) := by
    intro l
    induction l with
    | nil => intro _; exact ⟨[], by simp, fun i f n hf => by simp at hf⟩
    | cons f l ih =>
      intro hall
      simp only [List.all_cons, Bool.and_eq_true] at hall
      obtain ⟨pl, h1, h2⟩ := ih hall.2
      obtain ⟨n, hn⟩ := Option.isSome_iff_exists.1 hall.1
      refine ⟨(f.offset, n) :: pl, ?_, fun i g k hg hk => ?_⟩
      · simp [List.mapM_cons, run_sizeT hn] at h1 ⊢
        simp [h1]
      · cases i with
        | zero =>
          simp only [List.getElem?_cons_zero, Option.some.injEq] at hg
          subst hg
          rw [hn, Option.some.injEq] at hk
          subst hk
          rfl
        | succ i => simpa using h2 i g k (by simpa using hg) hk
  obtain ⟨pl, h1, h2⟩ := key fs.toList h
  refine ⟨pl.toArray, ?_, fun i f n hf hn => by simpa using h2 i f n (by simpa using hf) hn⟩
  rw [Array.mapM_eq_mapM_toList]
  simp [h1]

theorem go_build (hs : Sim w0 F0 X0 s L a w) {t : TypeId} {ps : Array (Nat × Operand)} {z : AV} {q : List (Nat × Nat × O)} (ho : o.op = .build t ps) (hz : zeroT P t = some z)
    (ht : (∃ fs, P.underlying t = some (.struct fs) ∧ fs.toList.all (fun f => (sizeT P f.type).isSome) = true ∧ mapO (fun (p : Nat × Operand) => (fs[p.1]?).bind fun f => (sizeT P f.type).bind fun n => (resO p.2).bind fun y => some (f.offset, n, y)) ps.toList = some q) ∨
      (∃ len e n, P.underlying t = some (.array len e) ∧ sizeT P e = some n ∧ mapO (fun (p : Nat × Operand) => (resO p.2).bind fun y => some (p.1 * n, n, y)) ps.toList = some q))
    (hK : evI C (.build (cellsOf z) q) s K) : Goes P w0 F0 X0 L o a w K := by
  simp only [evI, stepI] at hK
  obtain ⟨v, m', hv, hK⟩ := ev_step hK
  cases he : fillA (cellsOf z) (q.map fun p => (p.1, p.2.1, p.2.2.get s)) with
  | none => simp [he] at hv
  | some cs =>
    simp only [he, Option.some.injEq, Prod.mk.injEq] at hv
    obtain ⟨rfl, rfl⟩ := hv
    obtain ⟨zv, z1, z2⟩ := zeroT_sound (P := P) (w := w) (L := L) (Z := ZZ X0 L) hz
    obtain ⟨c1, c2⟩ := cells_rel z2
    rcases ht with ⟨fs, ht, hall, hq⟩ | ⟨len, e, n, ht, hn, hq⟩
    · obtain ⟨pl, p1, p2⟩ := places_run (P := P) (w := w) hall
      obtain ⟨h1, h2⟩ := mapO_some hq
      obtain ⟨Out, o1, o2, o3⟩ := fill_rel (w := w) (L := L) (Z := ZZ X0 L) (place := fun i => pl[i]?) (ps.map fun p => (p.1, a.eval p.2)).toList (q.map fun p => (p.1, p.2.1, p.2.2.get s)) (cellsOf z) cs zv.cells c1 c2 (by simp [h1]) (fun i p r hp hr => by
        simp only [Array.toList_map, List.getElem?_map, Option.map_eq_some_iff] at hp hr
        obtain ⟨p0, hp0, rfl⟩ := hp
        obtain ⟨r0, hr0, rfl⟩ := hr
        obtain ⟨y, hy, hf⟩ := h2 i p0 hp0
        rw [hr0, Option.some.injEq] at hy
        subst hy
        simp only [Option.bind_eq_some_iff, Option.some.injEq] at hf
        obtain ⟨f, hf1, n, hf2, y, hf3, rfl⟩ := hf
        exact ⟨p2 _ _ _ hf1 hf2, resO_sound hs hf3⟩) he
      refine goes_tells hs hK ⟨.agg Out, ?_, .agg _ _ o2 o3⟩
      simp only [Array.toList_map] at o1
      simp [Tells, execOp, ho, Instr.build, z1, run_underlying ht, p1, o1]
    · obtain ⟨h1, h2⟩ := mapO_some hq
      obtain ⟨Out, o1, o2, o3⟩ := fill_rel (w := w) (L := L) (Z := ZZ X0 L) (place := fun i => some (i * n, n)) (ps.map fun p => (p.1, a.eval p.2)).toList (q.map fun p => (p.1, p.2.1, p.2.2.get s)) (cellsOf z) cs zv.cells c1 c2 (by simp [h1]) (fun i p r hp hr => by
        simp only [Array.toList_map, List.getElem?_map, Option.map_eq_some_iff] at hp hr
        obtain ⟨p0, hp0, rfl⟩ := hp
        obtain ⟨r0, hr0, rfl⟩ := hr
        obtain ⟨y, hy, hf⟩ := h2 i p0 hp0
        rw [hr0, Option.some.injEq] at hy
        subst hy
        simp only [Option.bind_eq_some_iff, Option.some.injEq] at hf
        obtain ⟨y, hf3, rfl⟩ := hf
        exact ⟨rfl, resO_sound hs hf3⟩) he
      refine goes_tells hs hK ⟨.agg Out, ?_, .agg _ _ o2 o3⟩
      simp only [Array.toList_map] at o1
      simp [Tells, execOp, ho, Instr.build, z1, run_underlying ht, run_sizeT hn, o1]

end ops

end Go.Proofs.Ytnghlmogcbmlfaa
