/- Codes and functions: what holds of the small machine's text holds of the program's function. -/
import Derived.Test.YtbiefokigponpaaAmW
namespace Go.Proofs.Ytbiefokigponpaa
set_option linter.unusedVariables false
set_option linter.unusedSimpArgs false
set_option linter.unnecessarySimpa false

/-- Each contract of a table is kept by the program. -/
def TabSound (P : Program) (C : Tab) : Prop := ∀ f c, C f = some c → Sound P f c

section codes
variable {P : Program} {kt : KT} {hws : Hows} {w0 : World} {F0 X0 : Nat → Prop} {L0 : List LB} {C : Tab}

/-- A state of the model for which a state of the small machine stands, of which something holds. -/
def Holds (w0 : World) (F0 X0 : Nat → Prop) (L0 : List LB) (Q : St → Prop) (a : Act) (w : World) : Prop :=
  ∃ s L, Sim w0 F0 X0 s L a w ∧ Ext w0 L0 (ZZ X0 L0) w L (ZZ X0 L) ∧ Q s

def PostS (w0 : World) (F0 X0 : Nat → Prop) (L0 : List LB) (Q : Ex → St → Prop) : Exit → Act → World → Prop
  | .normal, a, w => Holds w0 F0 X0 L0 (Q .normal) a w
  | .exit id, a, w => Holds w0 F0 X0 L0 (Q (.exit id)) a w
  | .ret, a, w => Holds w0 F0 X0 L0 (Q .ret) a w
  | _, _, _ => False

theorem sim_put {s : St} {L L' : List LB} {a : Act} {w w' : World} {m' : List Blk} {v : AV} {V : Value} (hs : Sim w0 F0 X0 s L a w) (hm : SimM w0 F0 X0 m' L' w') (he : Ext w L (ZZ X0 L) w' L' (ZZ X0 L')) (hv : RepV w' L' (ZZ X0 L') v V) (d : Option Nat) :
    Sim w0 F0 X0 (s.put d v m') L' (a.put d V) w' := by
  cases d with
  | none => exact ⟨hm, hs.tl, fun i hi => (hs.tv i hi).ext he, hs.df⟩
  | some d =>
    refine ⟨hm, ?_, fun i hi => ?_, hs.df⟩
    · show (a.tmps.setIfInBounds d V).size = (setN s.t d v).length
      rw [length_setN, Array.size_setIfInBounds, hs.tl]
    · have hi' : i < s.t.length := by
        have : i < (setN s.t d v).length := hi
        rwa [length_setN] at this
      show RepV w' L' (ZZ X0 L') (nth (setN s.t d v) i) ((a.tmps.setIfInBounds d V).getD i Go.undef)
      by_cases hd : d = i
      · subst hd
        rw [nth_setN_same hi']
        have : (a.tmps.setIfInBounds d V).getD d Go.undef = V := getD_of (by
          rw [Array.getElem?_setIfInBounds, if_pos rfl, if_pos (by rw [hs.tl]; exact hi')])
        rw [this]
        exact hv
      · rw [nth_setN_other hd]
        have : (a.tmps.setIfInBounds d V).getD i Go.undef = a.tmps.getD i Go.undef := by
          simp only [Array.getD_eq_getD_getElem?, Array.getElem?_setIfInBounds, if_neg hd]
        rw [this]
        exact (hs.tv i hi').ext he

theorem run_call {o : Oper} {a : Act} {w : World} {c : Call} {x : Operand} {f : FuncId} {caps : Array Value} {fn : Func} (h : o.op = .call c) (hc : c.callee = .value x) (hx : a.eval x = .func (.func f) #[] caps) (hf : P.funcs[f]? = some fn) (hn : fn.name ≠ "runtime.NumGoroutine") (hb : fn.body.isSome = true) :
    (execOp a.eval o).run P w = .ok (.enter f (c.args.map a.eval ++ caps)) w := by
  have hb' : fn.body.isNone = false := by
    cases hbb : fn.body with
    | none => simp [hbb] at hb
    | some b => rfl
  have hb2 : fn.body ≠ none := by intro e; simp [e] at hb
  simp [execOp, h, resolve, hc, hx, Deferred.ofValue, invoke, callFunc, hf, hn, hb2]

/-- An operation, with what is asked behind it. -/
theorem op_wp (hC : TabSound P C) {o : Oper} {how : How} {i : AI} {s : St} {L : List LB} {a : Act} {w : World} {K : AV → List Blk → Prop} (hs : Sim w0 F0 X0 s L a w) (hr : resI P kt how o = some i) (hK : evI C i s K)
    {next : Act → World → Prop} {QM : Exit → Act → World → Prop} (hnext : ∀ v m' V w' L', K v m' → SimM w0 F0 X0 m' L' w' → Ext w L (ZZ X0 L) w' L' (ZZ X0 L') → RepV w' L' (ZZ X0 L') v V → next (a.put o.dst V) w') : o.wp P a w next QM := by
  have fin : ∀ {f : FuncId} {c : Con} {vs : List AV} {Vs : List Value} {args : Array Value}, C f = some c → Vs.length = vs.length → (∀ j, j < vs.length → RepV w L (ZZ X0 L) (nth vs j) (Vs[j]?.getD Go.undef)) → Vs.toArray = args →
      (execOp a.eval o).run P w = .ok (.enter f args) w → (match callA c vs s.m with | some (v, m) => K v m | none => False) → o.wp P a w next QM := by
    intro f c vs Vs args hc hl hrep ha hrun hk
    obtain ⟨v, m', hv, hK⟩ := ev_step hk
    unfold Oper.wp
    rw [hrun, Oper.upon_enter, ← ha]
    refine Calls.mono (call_sound hs.mem (hC f c hc) hl hrep hv) ?_
    rintro e w' ⟨V, L', rfl, h1, h2, h3⟩
    exact hnext v m' V w' L' hK h1 h2 h3
  have args : ∀ {c : Call} {xs : List O}, mapO resO c.args.toList = some xs → ∀ (cs : List AV) (Cs : Array Value), Cs.size = cs.length → (∀ j, j < cs.length → RepV w L (ZZ X0 L) (nth cs j) (Cs.getD j Go.undef)) →
      (c.args.toList.map a.eval ++ Cs.toList).length = (xs.map (O.get s) ++ cs).length ∧ ∀ j, j < (xs.map (O.get s) ++ cs).length → RepV w L (ZZ X0 L) (nth (xs.map (O.get s) ++ cs) j) ((c.args.toList.map a.eval ++ Cs.toList)[j]?.getD Go.undef) := by
    intro c xs hxs cs Cs hsz hcs
    obtain ⟨h1, h2⟩ := mapO_resO hs hxs
    have hl : (c.args.toList.map a.eval).length = (xs.map (O.get s)).length := by simp [h1]
    refine ⟨by simp [h1, hsz], fun j hj => ?_⟩
    by_cases hj1 : j < (xs.map (O.get s)).length
    · rw [nth_app_left hj1, List.getElem?_append_left (by omega)]
      exact h2 j (by simpa [h1] using hj1)
    · rw [nth_app_right (by omega), List.getElem?_append_right (by omega), hl]
      have := hcs (j - (xs.map (O.get s)).length) (by simp at hj hj1 ⊢; omega)
      simpa [Array.getD_eq_getD_getElem?] using this
  rcases op_sound hs hr hK with ⟨v, m', V, w', L', hk, hd, h1, h2, h3⟩ | ⟨c, hop, x, y, xs, hcal, hy, hxs, hkind⟩
  · rcases hd with hd | ⟨hd, rfl⟩
    · unfold Oper.wp
      rw [hd]
      exact hnext v m' V w' L' hk h1 h2 h3
    · unfold Oper.wp
      rw [hd]
      exact hnext v m' _ w' L' hk h1 h2 h3
  · rcases hkind with ⟨f, rfl, rfl | rfl | rfl⟩ | rfl
    · simp only [evI, stepI] at hK
      cases hc : C f with
      | none => simp only [hc] at hK
      | some con =>
        simp only [hc] at hK
        obtain ⟨⟨fn, hf, hn, hb⟩, _⟩ := hC f con hc
        obtain ⟨g1, g2⟩ := args hxs [] #[] rfl (fun j hj => by simp at hj)
        simp only [List.append_nil] at g1 g2
        exact fin hc g1 g2 (by apply Array.ext'; simp) (run_call hop hcal (a := a) (caps := #[]) rfl hf hn hb) hK
    · simp only [evI, stepI] at hK
    · simp only [evI, stepI] at hK
    · have hry := resO_sound hs hy
      simp only [evI, stepI] at hK
      cases hv : y.get s <;> simp only [hv] at hK
      rename_i f cs
      rw [hv] at hry
      obtain ⟨Cs, e, hsz, hrr⟩ := hry.fn_inv
      cases hc : C f with
      | none => simp only [hc] at hK
      | some con =>
        simp only [hc] at hK
        obtain ⟨⟨fn, hf, hn, hb⟩, _⟩ := hC f con hc
        obtain ⟨g1, g2⟩ := args hxs cs Cs hsz hrr
        exact fin hc g1 g2 (by apply Array.ext'; simp) (run_call hop hcal e hf hn hb) hK

theorem zipO_some {α β γ : Type} {f : α → β → Option γ} : ∀ {l : List α} {r : List β} {q : List γ}, zipO f l r = some q → q.length = l.length ∧ ∀ (i : Nat) (x : α), l[i]? = some x → ∃ y z, r[i]? = some y ∧ q[i]? = some z ∧ f x y = some z := by
  intro l
  induction l with
  | nil =>
    intro r q h
    cases r with
    | nil => simp only [zipO, Option.some.injEq] at h; subst h; exact ⟨rfl, fun i x hx => by simp at hx⟩
    | cons y r => simp [zipO] at h
  | cons x l ih =>
    intro r q h
    cases r with
    | nil => simp [zipO] at h
    | cons y r =>
      simp only [zipO] at h
      cases hf : f x y with
      | none => simp [hf] at h
      | some z =>
        cases hz : zipO f l r with
        | none => simp [hf, hz] at h
        | some q' =>
          simp only [hf, hz, Option.some.injEq] at h
          subst h
          obtain ⟨h1, h2⟩ := ih hz
          refine ⟨by simp [h1], fun i u hu => ?_⟩
          cases i with
          | zero => simp only [List.getElem?_cons_zero, Option.some.injEq] at hu; subst hu; exact ⟨y, z, rfl, rfl, hf⟩
          | succ i => exact h2 i u (by simpa using hu)

/-- How an operation is read. -/
def Reads1 (P : Program) (kt : KT) (ops : Array Oper) (o : Oper) (y : Ins) : Prop := ∃ how, resI P kt how o = some y.o ∧ y.d = o.dst ∧ resG ops o = some y.g

theorem yielded_of {ops : Array Oper} {s : St} {L : List LB} {a : Act} {w : World} (hs : Sim w0 F0 X0 s L a w) {j d : Nat} (hd : (ops[j]?).bind (·.dst) = some d) :
    (∀ b, nth s.t d = .bool b → yielded ops a.tmps j = some b) ∧ (nth s.t d = .undef → yielded ops a.tmps j = none) := by
  unfold yielded
  rw [hd]
  simp only [Option.bind_some]
  by_cases hl : d < s.t.length
  · have hr := hs.tv d hl
    have hsz : d < a.tmps.size := by rw [hs.tl]; exact hl
    have e : a.tmps[d]? = some (a.tmps.getD d Go.undef) := by simp [Array.getElem?_eq_getElem hsz, Array.getD_eq_getD_getElem?]
    rw [e]
    refine ⟨fun b hb => ?_, fun hu => ?_⟩
    · rw [hb] at hr
      rw [hr.bool_inv]
    · rw [hu] at hr
      generalize a.tmps.getD d Go.undef = V at hr
      cases hr
      rfl
  · rw [nth_ge (Nat.le_of_not_lt hl), Array.getElem?_eq_none (by rw [hs.tl]; exact Nat.le_of_not_lt hl)]
    exact ⟨fun b hb => by simp at hb, fun _ => rfl⟩

theorem ops_sound (hC : TabSound P C) {ops : Array Oper} {QM : Exit → Act → World → Prop} {Q : St → Prop} (hQ : ∀ a w, Holds w0 F0 X0 L0 Q a w → QM .normal a w) :
    ∀ (is : List Ins) (k : Nat), k + is.length = ops.size → (∀ (j : Nat) (y : Ins), is[j]? = some y → ∃ o, ops[k + j]? = some o ∧ Reads1 P kt ops o y) → ∀ (s : St) (L : List LB) (a : Act) (w : World), Sim w0 F0 X0 s L a w → Ext w0 L0 (ZZ X0 L0) w L (ZZ X0 L) →
      evR C Q is s → wpOps P ops QM (List.range' k is.length) a w := by
  intro is
  induction is with
  | nil =>
    intro k hk hr s L a w hs he hev
    exact hQ a w ⟨s, L, hs, he, hev⟩
  | cons y is ih =>
    intro k hk hr s L a w hs he hev
    obtain ⟨o, ho, how, hres, hdst, hg⟩ := hr 0 y rfl
    rw [Nat.add_zero] at ho
    have rest : ∀ (s' : St) (L' : List LB) (a' : Act) (w' : World), Sim w0 F0 X0 s' L' a' w' → Ext w0 L0 (ZZ X0 L0) w' L' (ZZ X0 L') → evR C Q is s' → wpOps P ops QM (List.range' (k + 1) is.length) a' w' :=
      ih (k + 1) (by simp at hk; omega) (fun j z hz => by
        have := hr (j + 1) z (by simpa using hz)
        rwa [show k + (j + 1) = k + 1 + j by omega] at this)
    have go : evI C y.o s (fun v m => evR C Q is (s.put y.d v m)) → o.wp P a w (wpOps P ops QM (List.range' (k + 1) is.length)) QM := by
      intro hk
      refine op_wp hC hs hres hk (fun v m' V w' L' hq h1 h2 h3 => ?_)
      rw [← hdst]
      exact rest _ L' _ w' (sim_put hs h1 h2 h3 y.d) (he.trans h2) hq
    have skip : evR C Q is (s.put y.d .undef s.m) → wpOps P ops QM (List.range' (k + 1) is.length) (a.put o.dst Go.undef) w := by
      intro hq
      rw [← hdst]
      exact rest _ L _ w (sim_put hs hs.mem (.refl _ _ _) .undef y.d) he hq
    simp only [List.length_cons, List.range'_succ, wpOps, ho]
    simp only [evR] at hev
    unfold resG at hg
    cases hgd : o.guard with
    | none =>
      simp only [hgd, Option.some.injEq] at hg
      rw [← hg] at hev
      rw [if_pos (by simp [Region.wanted, hgd])]
      exact .inl (go hev)
    | some jw =>
      obtain ⟨j, want⟩ := jw
      simp only [hgd] at hg
      cases hd : (ops[j]?).bind (·.dst) with
      | none => simp [hd] at hg
      | some d =>
        simp only [hd, Option.some.injEq] at hg
        rw [← hg] at hev
        simp only at hev
        obtain ⟨y1, y2⟩ := yielded_of (w0 := w0) (F0 := F0) (X0 := X0) hs hd
        have hw : Region.wanted o (yielded ops a.tmps) = (yielded ops a.tmps j == some want) := by simp [Region.wanted, hgd]
        rw [hw]
        cases hv : nth s.t d <;> simp only [hv] at hev
        case undef =>
          rw [y2 hv]
          exact skip hev
        case bool b =>
          rw [y1 b hv]
          cases want <;> cases b <;> simp only at hev
          · exact .inl (go hev)
          · exact skip hev
          · exact skip hev
          · exact .inl (go hev)

theorem wp_loop_n {c : Code} {QM : Exit → Act → World → Prop} (R : Nat → Act → World → Prop) (round : ∀ n a w, R n a w → c.wp P (Exit.then (fun a' w' => ∃ n', n' < n ∧ R n' a' w') QM) a w) {n : Nat} {a : Act} {w : World} (h0 : R n a w) : (Code.loop c).wp P QM a w := by
  intro b k cs
  have key : ∀ n a w, R n a w → ∃ e a' w', QM e a' w' ∧ Arrives P (lone (b.at a (.code c :: .inLoop c :: k)) cs w) b k cs e a' w' := by
    intro n
    induction n using Nat.strongRecOn with
    | _ n ih =>
      intro a w hI
      obtain ⟨e, a₁, w₁, hq, harr⟩ := round n a w hI b (.inLoop c :: k) cs
      cases e with
      | normal =>
        obtain ⟨n', hlt, hI₁⟩ := hq
        obtain ⟨e₂, a₂, w₂, hq₂, harr₂⟩ := ih n' hlt a₁ w₁ hI₁
        exact ⟨e₂, a₂, w₂, hq₂, .of_steps (Steps.trans harr (.one step_inLoop)) harr₂⟩
      | exit id => exact ⟨_, a₁, w₁, hq, .pass (x := .inLoop c) rfl (fun _ _ => .inl (by simp)) harr⟩
      | goto l => exact ⟨_, a₁, w₁, hq, .pass (x := .inLoop c) rfl (fun _ _ => .inl (by simp)) harr⟩
      | ret => exact ⟨_, a₁, w₁, hq, .pass (x := .inLoop c) rfl (fun _ _ => .inl (by simp)) harr⟩
      | panic ch => exact ⟨_, a₁, w₁, hq, .pass (x := .inLoop c) rfl (fun _ _ => .inl (by simp)) harr⟩
      | outgrown => exact ⟨_, a₁, w₁, hq, .pass (x := .inLoop c) rfl (fun _ _ => .inl (by simp)) harr⟩
  obtain ⟨e, a', w', hq, harr⟩ := key n a w h0
  exact ⟨e, a', w', hq, .of_steps (.one step_loop) harr⟩

theorem code_sound (hC : TabSound P C) : ∀ (c : Code) (ac : AC), resC P kt hws c = some ac → ∀ (Q : Ex → St → Prop) (s : St) (L : List LB) (a : Act) (w : World), Sim w0 F0 X0 s L a w → Ext w0 L0 (ZZ X0 L0) w L (ZZ X0 L) → awp C ac Q s → c.wp P (PostS w0 F0 X0 L0 Q) a w := by
  intro c
  induction c with
  | skip =>
    intro ac h Q s L a w hs he hq
    simp only [resC, Option.some.injEq] at h
    subst h
    exact wp_skip ⟨s, L, hs, he, hq⟩
  | region id ops draw =>
    intro ac h Q s L a w hs he hq
    simp only [resC] at h
    cases hr : resR P kt hws id ops draw with
    | none => simp [hr] at h
    | some is =>
      simp only [hr, Option.some.injEq] at h
      subst h
      unfold resR at hr
      split at hr
      · rename_i is' hz
        cases draw with
        | true => simp at hr
        | false =>
          simp only [Bool.false_eq_true, if_false, Option.some.injEq] at hr
          subst hr
          obtain ⟨h1, h2⟩ := zipO_some hz
          refine wp_region ?_
          rw [List.range_eq_range', ← show is'.length = ops.size by simpa using h1]
          refine ops_sound (kt := kt) hC (Q := Q .normal) (fun a w h => h) is' 0 (by simpa using h1) (fun j y hy => ?_) s L a w hs he hq
          have hj : j < ops.toList.length := by
            have := (List.getElem?_eq_some_iff.1 hy).1
            omega
          obtain ⟨hw, z, g1, g2, g3⟩ := h2 j ops.toList[j] (List.getElem?_eq_getElem hj)
          rw [hy, Option.some.injEq] at g2
          subst g2
          refine ⟨ops.toList[j], by simpa using hj, hw, ?_⟩
          split at g3
          · rename_i ai g e1 e2
            simp only [Option.some.injEq] at g3
            subst g3
            exact ⟨e1, rfl, e2⟩
          · simp at g3
      · simp at hr
  | seq x y ihx ihy =>
    intro ac h Q s L a w hs he hq
    simp only [resC] at h
    cases hx : resC P kt hws x with
    | none => simp [hx] at h
    | some ax =>
      cases hy : resC P kt hws y with
      | none => simp [hx, hy] at h
      | some ay =>
        simp only [hx, hy, Option.some.injEq] at h
        subst h
        refine wp_seq (wp_mono (ihx ax hx _ s L a w hs he hq) ?_)
        intro e a' w' hp
        cases e with
        | normal =>
          obtain ⟨s', L', h1, h2, h3⟩ := hp
          exact ihy ay hy Q s' L' a' w' h1 h2 h3
        | exit id => exact hp
        | ret => exact hp
        | goto l => exact hp
        | panic ch => exact hp
        | outgrown => exact hp
  | cond c x y ihx ihy =>
    intro ac h Q s L a w hs he hq
    simp only [resC] at h
    cases hc : resO c with
    | none => simp [hc] at h
    | some c' =>
      cases hx : resC P kt hws x with
      | none => simp [hc, hx] at h
      | some ax =>
        cases hy : resC P kt hws y with
        | none => simp [hc, hx, hy] at h
        | some ay =>
          simp only [hc, hx, hy, Option.some.injEq] at h
          subst h
          have hr := resO_sound hs hc
          simp only [awp] at hq
          cases hv : c'.get s <;> simp only [hv] at hq
          rename_i t
          rw [hv] at hr
          refine wp_cond hr.bool_inv ?_
          cases t with
          | true => exact ihx ax hx Q s L a w hs he hq
          | false => exact ihy ay hy Q s L a w hs he hq
  | block id x ih =>
    intro ac h Q s L a w hs he hq
    simp only [resC] at h
    cases hx : resC P kt hws x with
    | none => simp [hx] at h
    | some ax =>
      simp only [hx, Option.some.injEq] at h
      subst h
      refine wp_block (wp_mono (ih ax hx _ s L a w hs he hq) ?_)
      intro e a' w' hp
      cases e with
      | normal => exact hp
      | exit j =>
        obtain ⟨s', L', h1, h2, h3⟩ := hp
        simp only [Exit.inBlock]
        by_cases hj : j = id
        · rw [if_pos hj]
          have : eqN j id = true := eqN_iff.2 hj
          simp only [this] at h3
          exact ⟨s', L', h1, h2, h3⟩
        · rw [if_neg hj]
          have : eqN j id = false := by
            cases hb : eqN j id with
            | false => rfl
            | true => exact absurd (eqN_iff.1 hb) hj
          simp only [this] at h3
          exact ⟨s', L', h1, h2, h3⟩
      | ret => exact hp
      | goto l => exact hp
      | panic ch => exact hp
      | outgrown => exact hp
  | loop x ih =>
    intro ac h Q s L a w hs he hq
    simp only [resC] at h
    cases hx : resC P kt hws x with
    | none => simp [hx] at h
    | some ax =>
      simp only [hx, Option.some.injEq] at h
      subst h
      obtain ⟨R, n, hR, hround⟩ := hq
      refine wp_loop_n (fun n a w => Holds w0 F0 X0 L0 (R n) a w) (fun n a w hI => ?_) (n := n) ⟨s, L, hs, he, hR⟩
      obtain ⟨s1, L1, g1, g2, g3⟩ := hI
      refine wp_mono (ih ax hx _ s1 L1 a w g1 g2 (hround n s1 g3)) ?_
      intro e a' w' hp
      cases e with
      | normal =>
        obtain ⟨s', L', h1, h2, n', hlt, h3⟩ := hp
        exact ⟨n', hlt, s', L', h1, h2, h3⟩
      | exit id => exact hp
      | ret => exact hp
      | goto l => exact hp
      | panic ch => exact hp
      | outgrown => exact hp
  | exit id =>
    intro ac h Q s L a w hs he hq
    simp only [resC, Option.some.injEq] at h
    subst h
    exact wp_exit ⟨s, L, hs, he, hq⟩
  | ret =>
    intro ac h Q s L a w hs he hq
    simp only [resC, Option.some.injEq] at h
    subst h
    exact wp_ret ⟨s, L, hs, he, hq⟩
  | rangeFunc f params assign body ih1 ih2 => intro ac h; simp [resC] at h
  | scope x ih => intro ac h; simp [resC] at h
  | label l => intro ac h; simp [resC] at h
  | goto l => intro ac h; simp [resC] at h
  | refuse s => intro ac h; simp [resC] at h

end codes

end Go.Proofs.Ytbiefokigponpaa
