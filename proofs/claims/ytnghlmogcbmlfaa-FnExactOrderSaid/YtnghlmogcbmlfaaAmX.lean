/- Codes and functions: what holds of the small machine's text holds of the program's function. -/
import Derived.Test.YtnghlmogcbmlfaaAmWc
import Derived.Orders
namespace Go.Proofs.Ytnghlmogcbmlfaa
set_option linter.unusedVariables false
set_option linter.unusedSimpArgs false
set_option linter.unnecessarySimpa false

/-- Each contract of a table is kept by the program. -/
def TabSound (P : Program) (C : Tab) : Prop := ∀ f c, C f = some c → Sound P f c

section codes
variable {P : Program} {kt : KT} {hws : Hows} {w0 : World} {F0 X0 : Nat → Prop} {L0 : List LB} {C : Tab}

/-- A state of the model for which a state of the small machine stands, of which something holds. -/
def Holds (w0 : World) (F0 X0 : Nat → Prop) (L0 : List LB) (Q : St → Prop) (a : Act) (w : World) : Prop :=
  ∃ s L, Sim w0 F0 X0 s L a w ∧ Ext w0 L0 (ZZ X0 L0) w L (ZZ X0 L) ∧ Q s

def PostS (w0 : World) (F0 X0 : Nat → Prop) (L0 : List LB) (Q : Ex → St → Prop) : Exit → Act → World → Prop
  | .normal, a, w => Holds w0 F0 X0 L0 (Q .normal) a w
  | .exit id, a, w => Holds w0 F0 X0 L0 (Q (.exit id)) a w
  | .ret, a, w => Holds w0 F0 X0 L0 (Q .ret) a w
  | _, _, _ => False

theorem sim_put {s : St} {L L' : List LB} {a : Act} {w w' : World} {m' : List Blk} {v : AV} {V : Value} (hs : Sim w0 F0 X0 s L a w) (hm : SimM w0 F0 X0 m' L' w') (he : Ext w L (ZZ X0 L) w' L' (ZZ X0 L')) (hv : RepV w' L' (ZZ X0 L') v V) (d : Option Nat) :
    Sim w0 F0 X0 (s.put d v m') L' (a.put d V) w' := by
  cases d with
  | none => exact ⟨hm, hs.tl, fun i hi => (hs.tv i hi).ext he, hs.df⟩
  | some d =>
    refine ⟨hm, ?_, fun i hi => ?_, hs.df⟩
    · show (a.tmps.setIfInBounds d V).size = (setN s.t d v).length
      rw [length_setN, Array.size_setIfInBounds, hs.tl]
    · have hi' : i < s.t.length := by
        have : i < (setN s.t d v).length := hi
        rwa [length_setN] at this
      show RepV w' L' (ZZ X0 L') (nth (setN s.t d v) i) ((a.tmps.setIfInBounds d V).getD i Go.undef)
      by_cases hd : d = i
      · subst hd
        rw [nth_setN_same hi']
        have : (a.tmps.setIfInBounds d V).getD d Go.undef = V := getD_of (by
          rw [Array.getElem?_setIfInBounds, if_pos rfl, if_pos (by rw [hs.tl]; exact hi')])
        rw [this]
        exact hv
      · rw [nth_setN_other hd]
        have : (a.tmps.setIfInBounds d V).getD i Go.undef = a.tmps.getD i Go.undef := by
          simp only [Array.getD_eq_getD_getElem?, Array.getElem?_setIfInBounds, if_neg hd]
        rw [this]
        exact (hs.tv i hi').ext he

theorem run_call {o : Oper} {a : Act} {w : World} {c : Call} {x : Operand} {f : FuncId} {caps : Array Value} {fn : Func} (h : o.op = .call c) (hc : c.callee = .value x) (hx : a.eval x = .func (.func f) #[] caps) (hf : P.funcs[f]? = some fn) (hn : fn.name ≠ "runtime.NumGoroutine") (hb : fn.body.isSome = true) :
    (execOp a.eval o).run P w = .ok (.enter f (c.args.map a.eval ++ caps)) w := by
  have hb' : fn.body.isNone = false := by
    cases hbb : fn.body with
    | none => simp [hbb] at hb
    | some b => rfl
  have hb2 : fn.body ≠ none := by intro e; simp [e] at hb
  simp [execOp, h, resolve, hc, hx, Deferred.ofValue, invoke, callFunc, hf, hn, hb2]

/-- An operation, with what is asked behind it. -/
theorem op_wp0 (hC : TabSound P C) {o : Oper} {how : How} {i : AI} {s : St} {L : List LB} {a : Act} {w : World} {K : AV → List Blk → Prop} (hs : Sim w0 F0 X0 s L a w) (hr : resI P kt how o = some i) (hK : evI C i s K)
    {next : Act → World → Prop} {QM : Exit → Act → World → Prop} (hnext : ∀ v m' V w' L', K v m' → SimM w0 F0 X0 m' L' w' → Ext w L (ZZ X0 L) w' L' (ZZ X0 L') → RepV w' L' (ZZ X0 L') v V → next (a.put o.dst V) w') : o.wp P a w next QM := by
  have fin : ∀ {f : FuncId} {c : Con} {vs : List AV} {Vs : List Value} {args : Array Value}, C f = some c → Vs.length = vs.length → (∀ j, j < vs.length → RepV w L (ZZ X0 L) (nth vs j) (Vs[j]?.getD Go.undef)) → Vs.toArray = args →
      (execOp a.eval o).run P w = .ok (.enter f args) w → (match callA c vs s.m with | some (v, m) => K v m | none => False) → o.wp P a w next QM := by
    intro f c vs Vs args hc hl hrep ha hrun hk
    obtain ⟨v, m', hv, hK⟩ := ev_step hk
    unfold Oper.wp
    rw [hrun, Oper.upon_enter, ← ha]
    refine Calls.mono (call_sound hs.mem (hC f c hc) hl hrep hv) ?_
    rintro e w' ⟨V, L', rfl, h1, h2, h3⟩
    exact hnext v m' V w' L' hK h1 h2 h3
  have args : ∀ {c : Call} {xs : List O}, mapO resO c.args.toList = some xs → ∀ (cs : List AV) (Cs : Array Value), Cs.size = cs.length → (∀ j, j < cs.length → RepV w L (ZZ X0 L) (nth cs j) (Cs.getD j Go.undef)) →
      (c.args.toList.map a.eval ++ Cs.toList).length = (xs.map (O.get s) ++ cs).length ∧ ∀ j, j < (xs.map (O.get s) ++ cs).length → RepV w L (ZZ X0 L) (nth (xs.map (O.get s) ++ cs) j) ((c.args.toList.map a.eval ++ Cs.toList)[j]?.getD Go.undef) := by
    intro c xs hxs cs Cs hsz hcs
    obtain ⟨h1, h2⟩ := mapO_resO hs hxs
    have hl : (c.args.toList.map a.eval).length = (xs.map (O.get s)).length := by simp [h1]
    refine ⟨by simp [h1, hsz], fun j hj => ?_⟩
    by_cases hj1 : j < (xs.map (O.get s)).length
    · rw [nth_app_left hj1, List.getElem?_append_left (by omega)]
      exact h2 j (by simpa [h1] using hj1)
    · rw [nth_app_right (by omega), List.getElem?_append_right (by omega), hl]
      have := hcs (j - (xs.map (O.get s)).length) (by simp at hj hj1 ⊢; omega)
      simpa [Array.getD_eq_getD_getElem?] using this
  rcases op_sound hs hr hK with ⟨v, m', V, w', L', hk, hd, h1, h2, h3⟩ | ⟨c, hop, x, y, xs, hcal, hy, hxs, hkind⟩
  · rcases hd with hd | ⟨hd, rfl⟩
    · unfold Oper.wp
      rw [hd]
      exact hnext v m' V w' L' hk h1 h2 h3
    · unfold Oper.wp
      rw [hd]
      exact hnext v m' _ w' L' hk h1 h2 h3
  · rcases hkind with ⟨f, rfl, rfl | rfl | rfl⟩ | rfl
    · simp only [evI, stepI] at hK
      cases hc : C f with
      | none => simp only [hc] at hK
      | some con =>
        simp only [hc] at hK
        obtain ⟨⟨fn, hf, hn, hb⟩, _⟩ := hC f con hc
        obtain ⟨g1, g2⟩ := args hxs [] #[] rfl (fun j hj => by simp at hj)
        simp only [List.append_nil] at g1 g2
        exact fin hc g1 g2 (by apply Array.ext'; simp) (run_call hop hcal (a := a) (caps := #[]) rfl hf hn hb) hK
    · simp only [evI, stepI] at hK
      cases hc : C f with
      | none => simp only [hc] at hK
      | some con =>
        simp only [hc] at hK
        cases hp : callP con (xs.map (O.get s)) s.m with
        | none => simp only [hp] at hK
        | some r =>
          simp only [hp] at hK
          obtain ⟨⟨fn, hf, hn, hb⟩, _⟩ := hC f con hc
          obtain ⟨g1, g2⟩ := args hxs [] #[] rfl (fun j hj => by simp at hj)
          simp only [List.append_nil] at g1 g2
          exact fin hc g1 g2 (by apply Array.ext'; simp) (run_call hop hcal (a := a) (caps := #[]) rfl hf hn hb) (by rw [callP_callA hp]; exact hK)
    · simp only [evI, stepI] at hK
    · have hry := resO_sound hs hy
      simp only [evI, stepI] at hK
      cases hv : y.get s <;> simp only [hv] at hK
      rename_i f cs
      rw [hv] at hry
      obtain ⟨Cs, e, hsz, hrr⟩ := hry.fn_inv
      cases hc : C f with
      | none => simp only [hc] at hK
      | some con =>
        simp only [hc] at hK
        obtain ⟨⟨fn, hf, hn, hb⟩, _⟩ := hC f con hc
        obtain ⟨g1, g2⟩ := args hxs cs Cs hsz hrr
        exact fin hc g1 g2 (by apply Array.ext'; simp) (run_call hop hcal e hf hn hb) hK

/-- An operation as it is read in a region, with what is asked behind it. -/
theorem op_wp (hC : TabSound P C) {o : Oper} {how : How} {i : AI} {s : St} {L : List LB} {a : Act} {w : World} {K : AV → List Blk → Prop} (hs : Sim w0 F0 X0 s L a w) (hr : resJ P kt how o = some i) (hK : evI C i s K)
    {next : Act → World → Prop} {QM : Exit → Act → World → Prop} (hnext : ∀ v m' V w' L', K v m' → SimM w0 F0 X0 m' L' w' → Ext w L (ZZ X0 L) w' L' (ZZ X0 L') → RepV w' L' (ZZ X0 L') v V → next (a.put o.dst V) w') : o.wp P a w next QM := by
  unfold resJ at hr
  split at hr
  · cases hi : resI P kt .any o with
    | none => simp [hi] at hr
    | some j =>
      simp only [hi, Option.some.injEq] at hr
      subst hr
      exact op_wp0 hC hs hi (still_evI hK) hnext
  · exact op_wp0 hC hs hr hK hnext

theorem zipO_some {α β γ : Type} {f : α → β → Option γ} : ∀ {l : List α} {r : List β} {q : List γ}, zipO f l r = some q → q.length = l.length ∧ ∀ (i : Nat) (x : α), l[i]? = some x → ∃ y z, r[i]? = some y ∧ q[i]? = some z ∧ f x y = some z := by
  intro l
  induction l with
  | nil =>
    intro r q h
    cases r with
    | nil => simp only [zipO, Option.some.injEq] at h; subst h; exact ⟨rfl, fun i x hx => by simp at hx⟩
    | cons y r => simp [zipO] at h
  | cons x l ih =>
    intro r q h
    cases r with
    | nil => simp [zipO] at h
    | cons y r =>
      simp only [zipO] at h
      cases hf : f x y with
      | none => simp [hf] at h
      | some z =>
        cases hz : zipO f l r with
        | none => simp [hf, hz] at h
        | some q' =>
          simp only [hf, hz, Option.some.injEq] at h
          subst h
          obtain ⟨h1, h2⟩ := ih hz
          refine ⟨by simp [h1], fun i u hu => ?_⟩
          cases i with
          | zero => simp only [List.getElem?_cons_zero, Option.some.injEq] at hu; subst hu; exact ⟨y, z, rfl, rfl, hf⟩
          | succ i => exact h2 i u (by simpa using hu)

/-- How an operation is read. -/
def Reads1 (P : Program) (kt : KT) (ops : Array Oper) (o : Oper) (y : Ins) : Prop := ∃ how, resJ P kt how o = some y.o ∧ y.d = o.dst ∧ resG ops o = some y.g

theorem yielded_of {ops : Array Oper} {s : St} {L : List LB} {a : Act} {w : World} (hs : Sim w0 F0 X0 s L a w) {j d : Nat} (hd : (ops[j]?).bind (·.dst) = some d) :
    (∀ b, nth s.t d = .bool b → yielded ops a.tmps j = some b) ∧ (nth s.t d = .undef → yielded ops a.tmps j = none) := by
  unfold yielded
  rw [hd]
  simp only [Option.bind_some]
  by_cases hl : d < s.t.length
  · have hr := hs.tv d hl
    have hsz : d < a.tmps.size := by rw [hs.tl]; exact hl
    have e : a.tmps[d]? = some (a.tmps.getD d Go.undef) := by simp [Array.getElem?_eq_getElem hsz, Array.getD_eq_getD_getElem?]
    rw [e]
    refine ⟨fun b hb => ?_, fun hu => ?_⟩
    · rw [hb] at hr
      rw [hr.bool_inv]
    · rw [hu] at hr
      generalize a.tmps.getD d Go.undef = V at hr
      cases hr
      rfl
  · rw [nth_ge (Nat.le_of_not_lt hl), Array.getElem?_eq_none (by rw [hs.tl]; exact Nat.le_of_not_lt hl)]
    exact ⟨fun b hb => by simp at hb, fun _ => rfl⟩

theorem ops_sound (hC : TabSound P C) {ops : Array Oper} {QM : Exit → Act → World → Prop} {Q : St → Prop} (hQ : ∀ a w, Holds w0 F0 X0 L0 Q a w → QM .normal a w) :
    ∀ (is : List Ins) (k : Nat), k + is.length = ops.size → (∀ (j : Nat) (y : Ins), is[j]? = some y → ∃ o, ops[k + j]? = some o ∧ Reads1 P kt ops o y) → ∀ (s : St) (L : List LB) (a : Act) (w : World), Sim w0 F0 X0 s L a w → Ext w0 L0 (ZZ X0 L0) w L (ZZ X0 L) →
      evR C Q is s → wpOps P ops QM (List.range' k is.length) a w := by
  intro is
  induction is with
  | nil =>
    intro k hk hr s L a w hs he hev
    exact hQ a w ⟨s, L, hs, he, hev⟩
  | cons y is ih =>
    intro k hk hr s L a w hs he hev
    obtain ⟨o, ho, how, hres, hdst, hg⟩ := hr 0 y rfl
    rw [Nat.add_zero] at ho
    have rest : ∀ (s' : St) (L' : List LB) (a' : Act) (w' : World), Sim w0 F0 X0 s' L' a' w' → Ext w0 L0 (ZZ X0 L0) w' L' (ZZ X0 L') → evR C Q is s' → wpOps P ops QM (List.range' (k + 1) is.length) a' w' :=
      ih (k + 1) (by simp at hk; omega) (fun j z hz => by
        have := hr (j + 1) z (by simpa using hz)
        rwa [show k + (j + 1) = k + 1 + j by omega] at this)
    have go : evI C y.o s (fun v m => evR C Q is (s.put y.d v m)) → o.wp P a w (wpOps P ops QM (List.range' (k + 1) is.length)) QM := by
      intro hk
      refine op_wp hC hs hres hk (fun v m' V w' L' hq h1 h2 h3 => ?_)
      rw [← hdst]
      exact rest _ L' _ w' (sim_put hs h1 h2 h3 y.d) (he.trans h2) hq
    have skip : evR C Q is (s.put y.d .undef s.m) → wpOps P ops QM (List.range' (k + 1) is.length) (a.put o.dst Go.undef) w := by
      intro hq
      rw [← hdst]
      exact rest _ L _ w (sim_put hs hs.mem (.refl _ _ _) .undef y.d) he hq
    simp only [List.length_cons, List.range'_succ, wpOps, ho]
    simp only [evR] at hev
    unfold resG at hg
    cases hgd : o.guard with
    | none =>
      simp only [hgd, Option.some.injEq] at hg
      rw [← hg] at hev
      rw [if_pos (by simp [Region.wanted, hgd])]
      exact .inl (go hev)
    | some jw =>
      obtain ⟨j, want⟩ := jw
      simp only [hgd] at hg
      cases hd : (ops[j]?).bind (·.dst) with
      | none => simp [hd] at hg
      | some d =>
        simp only [hd, Option.some.injEq] at hg
        rw [← hg] at hev
        simp only at hev
        obtain ⟨y1, y2⟩ := yielded_of (w0 := w0) (F0 := F0) (X0 := X0) hs hd
        have hw : Region.wanted o (yielded ops a.tmps) = (yielded ops a.tmps j == some want) := by simp [Region.wanted, hgd]
        rw [hw]
        cases hv : nth s.t d <;> simp only [hv] at hev
        case undef =>
          rw [y2 hv]
          exact skip hev
        case bool b =>
          rw [y1 b hv]
          cases want <;> cases b <;> simp only at hev
          · exact .inl (go hev)
          · exact skip hev
          · exact skip hev
          · exact .inl (go hev)

theorem one_sound (hC : TabSound P C) {ops : Array Oper} {QM : Exit → Act → World → Prop} {y : Ins} {o : Oper} {i : Nat} (ho : ops[i]? = some o) (hrd : Reads1 P kt ops o y) {s : St} {L : List LB} {a : Act} {w : World} (hs : Sim w0 F0 X0 s L a w) (he : Ext w0 L0 (ZZ X0 L0) w L (ZZ X0 L))
    {R : St → Prop} {K : Act → World → Prop} (hev : ins1 C y s R) (hK : ∀ (s' : St) (L' : List LB) (a' : Act) (w' : World), Sim w0 F0 X0 s' L' a' w' → Ext w0 L0 (ZZ X0 L0) w' L' (ZZ X0 L') → R s' → K a' w') : wpOp P ops QM i K a w := by
  obtain ⟨how, hres, hdst, hg⟩ := hrd
  have go : evI C y.o s (fun v m => R (s.put y.d v m)) → o.wp P a w K QM := by
    intro hk
    refine op_wp hC hs hres hk (fun v m' V w' L' hq h1 h2 h3 => ?_)
    rw [← hdst]
    exact hK _ L' _ w' (sim_put hs h1 h2 h3 y.d) (he.trans h2) hq
  have skip : R (s.put y.d .undef s.m) → K (a.put o.dst Go.undef) w := by
    intro hq
    rw [← hdst]
    exact hK _ L _ w (sim_put hs hs.mem (.refl _ _ _) .undef y.d) he hq
  unfold wpOp
  simp only [ho]
  rw [ins1_def] at hev
  unfold resG at hg
  cases hgd : o.guard with
  | none =>
    simp only [hgd, Option.some.injEq] at hg
    rw [← hg] at hev
    rw [if_pos (by simp [Region.wanted, hgd])]
    exact .inl (go hev)
  | some jw =>
    obtain ⟨j, want⟩ := jw
    simp only [hgd] at hg
    cases hd : (ops[j]?).bind (·.dst) with
    | none => simp [hd] at hg
    | some d =>
      simp only [hd, Option.some.injEq] at hg
      rw [← hg] at hev
      simp only at hev
      obtain ⟨y1, y2⟩ := yielded_of (w0 := w0) (F0 := F0) (X0 := X0) hs hd
      have hw : Region.wanted o (yielded ops a.tmps) = (yielded ops a.tmps j == some want) := by simp [Region.wanted, hgd]
      rw [hw]
      cases hv : nth s.t d <;> simp only [hv] at hev
      case undef =>
        rw [y2 hv]
        exact skip hev
      case bool b =>
        rw [y1 b hv]
        cases want <;> cases b <;> simp only at hev
        · exact .inl (go hev)
        · exact skip hev
        · exact skip hev
        · exact .inl (go hev)

/-- What stands ahead of what is listed is listed. -/
def Shut (ops : Array Oper) (listed : Array Bool) : Prop :=
  ∀ (i : Nat) (o : Oper), ops[i]? = some o → listed.getD i false = true → ∀ e ∈ o.after, Region.binds .any e = true → listed.getD e.on false = true

theorem anc_listed {ops : Array Oper} {listed : Array Bool} (hc : Shut ops listed) {k : Nat} : ∀ (n j : Nat), anc ops k n j = true → (∀ o, ops[j]? = some o → ∀ e ∈ o.after, Region.binds .any e = true → listed.getD e.on false = true) → listed.getD k false = true := by
  intro n
  induction n with
  | zero => intro j h; simp [anc] at h
  | succ n ih =>
    intro j h hj
    simp only [anc] at h
    cases ho : ops[j]? with
    | none => simp [ho] at h
    | some o =>
      simp only [ho, Array.any_eq_true'] at h
      obtain ⟨e, he, h⟩ := h
      simp only [Bool.and_eq_true, Bool.or_eq_true, beq_iff_eq] at h
      obtain ⟨hb, h⟩ := h
      have hl := hj o ho e he hb
      rcases h with h | h
      · rw [← h]; exact hl
      · exact ih e.on h (fun o' ho' e' he' hb' => hc e.on o' ho' hl e' he' hb')

theorem calm_at {ops : Array Oper} {is : List Ins} (h : calm ops is = true) {j : Nat} {y : Ins} (hy : is[j]? = some y) : ∃ o, ops[j]? = some o ∧ (∀ e ∈ o.after, Region.binds .any e = true → e.on < j) ∧ ∀ (i : Nat) (x : Ins), is[i]? = some x → i < j → freeI x y = true ∨ anc ops i 5 j = true := by
  have h1 := List.all_eq_true.1 h (y, j) (by rw [List.mem_zipIdx_iff_getElem?]; simpa using hy)
  simp only at h1
  cases ho : ops[j]? with
  | none => simp [ho] at h1
  | some o =>
    simp only [ho, Bool.and_eq_true] at h1
    refine ⟨o, rfl, fun e he hb => ?_, fun i x hx hij => ?_⟩
    · have := Array.all_eq_true'.1 h1.1 e he
      simpa [hb] using this
    · have := List.all_eq_true.1 h1.2 (x, i) (by rw [List.mem_zipIdx_iff_getElem?]; simpa using hx)
      simp only [Bool.or_eq_true, decide_eq_true_eq] at this
      rcases this with (h | h) | h
      · omega
      · exact .inl h
      · exact .inr h

theorem any_sound (hC : TabSound P C) {ops : Array Oper} {QM : Exit → Act → World → Prop} {Q : St → Prop} (hQ : ∀ a w, Holds w0 F0 X0 L0 Q a w → QM .normal a w) {is : List Ins} (hlen : is.length = ops.size) (hrd : ∀ (j : Nat) (y : Ins), is[j]? = some y → ∃ o, ops[j]? = some o ∧ Reads1 P kt ops o y) (hcalm : calm ops is = true) :
    ∀ (fuel : Nat) (listed : Array Bool) (rem : List (Nat × Ins)) (s : St) (L : List LB) (a : Act) (w : World), listed.size = ops.size → Shut ops listed → (∀ p ∈ rem, is[p.1]? = some p.2 ∧ listed.getD p.1 true = false) → (∀ (j : Nat) (y : Ins), is[j]? = some y → listed.getD j true = false → (j, y) ∈ rem) →
      rem.Pairwise (fun p q => p.1 < q.1) → rem.length ≤ fuel → Sim w0 F0 X0 s L a w → Ext w0 L0 (ZZ X0 L0) w L (ZZ X0 L) → evR C Q (rem.map (·.2)) s → wpAny P .any ops QM fuel listed a w := by
  intro fuel
  have mem_ready : ∀ {listed : Array Bool} {i : Nat}, i ∈ Region.ready .any ops listed ↔ i < ops.size ∧ listed.getD i true = false ∧ ∃ o, ops[i]? = some o ∧ ∀ e ∈ o.after, Region.binds .any e = true → listed.getD e.on false = true := by
    intro listed i
    simp only [Region.ready, List.mem_filter, List.mem_range, Bool.and_eq_true, Bool.not_eq_true']
    refine and_congr_right fun hi => and_congr_right fun _ => ?_
    have ho : ops[i]? = some ops[i] := Array.getElem?_eq_getElem hi
    rw [ho]
    simp only [Option.map_some, Option.getD_some, Array.all_eq_true', Bool.or_eq_true, Bool.not_eq_true', Option.some.injEq]
    constructor
    · intro h
      refine ⟨_, rfl, fun e he hb => ?_⟩
      rcases h e he with h | h
      · rw [hb] at h; cases h
      · exact h
    · rintro ⟨o, rfl, h⟩ e he
      cases hb : Region.binds .any e with
      | false => exact .inl rfl
      | true => exact .inr (h e he hb)
  have both : ∀ {listed : Array Bool} {i : Nat}, listed.size = ops.size → i < ops.size → (listed.getD i true = false ↔ listed.getD i false = false) := by
    intro listed i hsz hi
    have : i < listed.size := by omega
    simp [Array.getD_eq_getD_getElem?, Array.getElem?_eq_getElem this]
  induction fuel with
  | zero =>
    intro listed rem s L a w hsz hshut h1 h2 h3 h4 hs he hev
    obtain rfl := List.length_eq_zero_iff.1 (Nat.le_zero.1 h4)
    refine ⟨?_, hQ a w ⟨s, L, hs, he, hev⟩⟩
    apply List.eq_nil_iff_forall_not_mem.2
    intro i hi
    obtain ⟨g1, g2, _⟩ := mem_ready.1 hi
    have := h2 i is[i] (List.getElem?_eq_getElem (by omega)) g2
    simp at this
  | succ fuel ih =>
    intro listed rem s L a w hsz hshut h1 h2 h3 h4 hs he hev
    refine ⟨fun hnil => ?_, fun i hi => ?_⟩
    · cases rem with
      | nil => exact hQ a w ⟨s, L, hs, he, hev⟩
      | cons p rem =>
        exfalso
        obtain ⟨g1, g2⟩ := h1 p (by simp)
        obtain ⟨o, ho, hlt, _⟩ := calm_at hcalm g1
        have hp : p.1 < ops.size := (Array.getElem?_eq_some_iff.1 ho).1
        have : p.1 ∈ Region.ready .any ops listed := by
          refine mem_ready.2 ⟨hp, g2, o, ho, fun e hee hb => ?_⟩
          have hl := hlt e hee hb
          cases hg : listed.getD e.on false with
          | true => rfl
          | false =>
            exfalso
            have hg' := (both hsz (by omega)).2 hg
            have hin := h2 e.on is[e.on] (List.getElem?_eq_getElem (by omega)) hg'
            rcases List.mem_cons.1 hin with h | h
            · rw [← h] at hl
              simp at hl
            · have := (List.pairwise_cons.1 h3).1 _ h
              simp at this
              omega
        rw [hnil] at this
        simp at this
    · obtain ⟨hi1, hi2, o, ho, hall⟩ := mem_ready.1 hi
      have hiy : is[i]? = some is[i] := List.getElem?_eq_getElem (by omega)
      generalize is[i] = y at hiy
      have hin := h2 i y hiy hi2
      obtain ⟨pre, post, rfl⟩ := List.append_of_mem hin
      obtain ⟨o2, ho2, _, hfr⟩ := calm_at hcalm hiy
      have hpw := List.pairwise_append.1 h3
      have hfree : ∀ x ∈ pre.map (·.2), freeI x y = true := by
        intro x hx
        obtain ⟨p, hp, rfl⟩ := List.mem_map.1 hx
        obtain ⟨g1, g2⟩ := h1 p (by simp [hp])
        have hlt : p.1 < i := hpw.2.2 p hp (i, y) (by simp)
        rcases hfr p.1 p.2 g1 hlt with h | h
        · exact h
        · exfalso
          have := anc_listed hshut 5 i h (fun o' ho' e hee hb => by
            rw [ho, Option.some.injEq] at ho'
            subst ho'
            exact hall e hee hb)
          have hf := (both hsz (by omega)).1 g2
          rw [this] at hf
          cases hf
      rw [List.map_append, List.map_cons] at hev
      have hone := front (pre.map (·.2)) s hfree hev
      obtain ⟨o3, ho3, hrd3⟩ := hrd i y hiy
      rw [ho, Option.some.injEq] at ho3
      subst ho3
      refine one_sound hC ho hrd3 hs he hone (fun s' L' a' w' hs' he' hev' => ?_)
      have hne : ∀ p, p ∈ pre ∨ p ∈ post → p.1 ≠ i := by
        rintro p (hp | hp)
        · have := hpw.2.2 p hp (i, y) (by simp)
          simp at this
          omega
        · have := (List.pairwise_cons.1 hpw.2.1).1 p hp
          simp at this
          omega
      refine ih (listed.setIfInBounds i true) (pre ++ post) s' L' a' w' (by simp [hsz]) ?_ ?_ ?_ ?_ ?_ hs' he' (by rw [List.map_append]; exact hev')
      · intro j o' ho' hj e hee hb
        simp only [Array.getD_eq_getD_getElem?, Array.getElem?_setIfInBounds] at hj ⊢
        by_cases hei : i = e.on
        · rw [if_pos hei]
          have : i < listed.size := by omega
          simp [this]
        · rw [if_neg hei]
          by_cases hji : i = j
          · subst hji
            rw [ho, Option.some.injEq] at ho'
            subst ho'
            simpa [Array.getD_eq_getD_getElem?] using hall e hee hb
          · rw [if_neg hji] at hj
            simpa [Array.getD_eq_getD_getElem?] using hshut j o' ho' (by simpa [Array.getD_eq_getD_getElem?] using hj) e hee hb
      · intro p hp
        obtain ⟨g1, g2⟩ := h1 p (by rcases List.mem_append.1 hp with h | h <;> simp [h])
        refine ⟨g1, ?_⟩
        simp only [Array.getD_eq_getD_getElem?, Array.getElem?_setIfInBounds] at g2 ⊢
        rw [if_neg (fun e => hne p (List.mem_append.1 hp) e.symm)]
        exact g2
      · intro j z hz hj
        have hji : i ≠ j := by
          rintro rfl
          have : i < listed.size := by omega
          simp [Array.getD_eq_getD_getElem?, Array.getElem?_setIfInBounds, this] at hj
        simp only [Array.getD_eq_getD_getElem?, Array.getElem?_setIfInBounds, if_neg hji] at hj
        have := h2 j z hz (by simpa [Array.getD_eq_getD_getElem?] using hj)
        rcases List.mem_append.1 this with h | h
        · exact List.mem_append.2 (.inl h)
        · rcases List.mem_cons.1 h with h | h
          · simp only [Prod.mk.injEq] at h
            exact absurd h.1.symm hji
          · exact List.mem_append.2 (.inr h)
      · exact List.pairwise_append.2 ⟨hpw.1, (List.pairwise_cons.1 hpw.2.1).2, fun p hp q hq => hpw.2.2 p hp q (by simp [hq])⟩
      · simp at h4 ⊢
        omega

theorem evAny_sound (hC : TabSound P C) {ops : Array Oper} {QM : Exit → Act → World → Prop} {Q : St → Prop} (hQ : ∀ a w, Holds w0 F0 X0 L0 Q a w → QM .normal a w) {is : List Ins} (hrd : ∀ (j : Nat) (y : Ins), is[j]? = some y → ∃ o, ops[j]? = some o ∧ Reads1 P kt ops o y) :
    ∀ (fuel : Nat) (listed : Array Bool) (s : St) (L : List LB) (a : Act) (w : World), Sim w0 F0 X0 s L a w → Ext w0 L0 (ZZ X0 L0) w L (ZZ X0 L) → evAny C Q ops is fuel listed s → wpAny P .any ops QM fuel listed a w := by
  intro fuel
  induction fuel with
  | zero => intro listed s L a w hs he h; exact ⟨h.1, hQ a w ⟨s, L, hs, he, h.2⟩⟩
  | succ fuel ih =>
    intro listed s L a w hs he h
    refine ⟨fun hnil => hQ a w ⟨s, L, hs, he, h.1 hnil⟩, fun i hi => ?_⟩
    obtain ⟨y, hy, h1⟩ := h.2 i hi
    obtain ⟨o, ho, hrd3⟩ := hrd i y hy
    exact one_sound hC ho hrd3 hs he h1 (fun s' L' a' w' hs' he' hev' => ih (listed.setIfInBounds i true) s' L' a' w' hs' he' hev')

theorem mem_ready {ops : Array Oper} {listed : Array Bool} {i : Nat} : i ∈ Region.ready .any ops listed ↔ i < ops.size ∧ listed.getD i true = false ∧ ∃ o, ops[i]? = some o ∧ ∀ e ∈ o.after, Region.binds .any e = true → listed.getD e.on false = true := by
  simp only [Region.ready, List.mem_filter, List.mem_range, Bool.and_eq_true, Bool.not_eq_true']
  refine and_congr_right fun hi => and_congr_right fun _ => ?_
  have ho : ops[i]? = some ops[i] := Array.getElem?_eq_getElem hi
  rw [ho]
  simp only [Option.map_some, Option.getD_some, Array.all_eq_true', Bool.or_eq_true, Bool.not_eq_true', Option.some.injEq]
  constructor
  · intro h
    refine ⟨_, rfl, fun e he hb => ?_⟩
    rcases h e he with h | h
    · rw [hb] at h; cases h
    · exact h
  · rintro ⟨o, rfl, h⟩ e he
    cases hb : Region.binds .any e with
    | false => exact .inl rfl
    | true => exact .inr (h e he hb)

theorem listed_both {ops : Array Oper} {listed : Array Bool} {i : Nat} (hsz : listed.size = ops.size) (hi : i < ops.size) : (listed.getD i true = false ↔ listed.getD i false = false) := by
  have : i < listed.size := by omega
  simp [Array.getD_eq_getD_getElem?, Array.getElem?_eq_getElem this]

/-- What an order is to keep. -/
def PairsP (ops : Array Oper) (is : List Ins) (p : List Nat × List (Nat × Nat)) : Prop :=
  p.1.Pairwise fun x y => x ≠ y ∧ ∃ a b, is[x]? = some a ∧ is[y]? = some b ∧ (freeI a b = true ∨ anc ops x 40 y = true ∨ (x, y) ∈ p.2)

theorem pairsOk_sound {ops : Array Oper} {is : List Ins} {A : List (Nat × Nat)} : ∀ r : List Nat, pairsOk ops is A r = true → PairsP ops is (r, A) := by
  intro r
  induction r with
  | nil => intro _; exact List.Pairwise.nil
  | cons x r ih =>
    intro h
    simp only [pairsOk, Bool.and_eq_true] at h
    refine List.pairwise_cons.2 ⟨fun y hy => ?_, ih h.2⟩
    have hp := List.all_eq_true.1 h.1 y hy
    simp only [Bool.and_eq_true, Bool.not_eq_true', beq_eq_false_iff_ne] at hp
    refine ⟨hp.1, ?_⟩
    have h2 := hp.2
    cases ha : is[x]? with
    | none => simp [ha] at h2
    | some a =>
      cases hb : is[y]? with
      | none => simp [ha, hb] at h2
      | some b =>
        simp only [ha, hb, Bool.or_eq_true] at h2
        refine ⟨a, b, rfl, rfl, ?_⟩
        rcases h2 with h2 | h2 | h2
        · exact .inl h2
        rotate_left
        · exact .inr (.inl h2)
        · obtain ⟨q, hq, he⟩ := List.any_eq_true.1 h2
          simp only [Bool.and_eq_true, beq_iff_eq] at he
          refine .inr (.inr ?_)
          obtain ⟨q1, q2⟩ := q
          obtain ⟨rfl, rfl⟩ := he
          exact hq

theorem alts_sound {C : Tab} {Q : St → Prop} {ops : Array Oper} {is : List Ins} (hlen : is.length = ops.size) (hback : ∀ (j : Nat) (o : Oper), ops[j]? = some o → ∀ e ∈ o.after, Region.binds .any e = true → e.on < j) (I0 : List Nat) (hI0 : ∀ i ∈ I0, i < ops.size) :
    ∀ (fuel : Nat) (listed : Array Bool) (reps : List (List Nat × List (Nat × Nat))) (I : List Nat) (n : Nat) (s : St), listed.size = ops.size → Shut ops listed → reps ≠ [] →
      (∀ p ∈ reps, PairsP ops is p ∧ (∀ j, j ∈ p.1 ↔ j < ops.size ∧ listed.getD j true = false) ∧ (∀ q ∈ p.2, q.1 ∈ I0 ∧ q.2 ∈ I0) ∧ p.1.length ≤ fuel) →
      (∀ i, i ∈ I ↔ i ∈ I0 ∧ listed.getD i true = false) → cov ops n I (reps.map (·.2)) = true → (∀ p ∈ reps, evR C Q (pickI is p.1) s) → evAny C Q ops is fuel listed s := by
  intro fuel
  have none_left : ∀ {listed : Array Bool}, listed.size = ops.size → Region.ready .any ops listed = [] → ∀ j, j < ops.size → listed.getD j true = true := by
    intro listed hsz hnil j
    induction j using Nat.strongRecOn with
    | _ j ih =>
      intro hj
      cases hl : listed.getD j true with
      | true => rfl
      | false =>
        exfalso
        have ho : ops[j]? = some ops[j] := Array.getElem?_eq_getElem hj
        have : j ∈ Region.ready .any ops listed := mem_ready.2 ⟨hj, hl, _, ho, fun e he hb => by
          have hlt := hback j _ ho e he hb
          have h1 := ih e.on hlt (by omega)
          cases h2 : listed.getD e.on false with
          | true => rfl
          | false =>
            have := (listed_both hsz (by omega)).2 h2
            rw [h1] at this
            cases this⟩
        rw [hnil] at this
        simp at this
  have fin : ∀ {listed : Array Bool} {reps : List (List Nat × List (Nat × Nat))} {s : St}, listed.size = ops.size → reps ≠ [] → (∀ p ∈ reps, ∀ j, j ∈ p.1 ↔ j < ops.size ∧ listed.getD j true = false) → (∀ p ∈ reps, evR C Q (pickI is p.1) s) → Region.ready .any ops listed = [] → Q s := by
    intro listed reps s hsz hne hmem hev hnil
    obtain ⟨p, hp⟩ := List.exists_mem_of_ne_nil _ hne
    have he : p.1 = [] := by
      apply List.eq_nil_iff_forall_not_mem.2
      intro j hj
      obtain ⟨h1, h2⟩ := (hmem p hp j).1 hj
      rw [none_left hsz hnil j h1] at h2
      cases h2
    have := hev p hp
    rw [he] at this
    exact this
  induction fuel with
  | zero =>
    intro listed reps I n s hsz hshut hne hp hI hcov hev
    have hnil : Region.ready .any ops listed = [] := by
      apply List.eq_nil_iff_forall_not_mem.2
      intro i hi
      obtain ⟨h1, h2, _⟩ := mem_ready.1 hi
      obtain ⟨p, hpm⟩ := List.exists_mem_of_ne_nil _ hne
      have hin := ((hp p hpm).2.1 i).2 ⟨h1, h2⟩
      have := (hp p hpm).2.2.2
      rw [List.length_eq_zero_iff.1 (Nat.le_zero.1 this)] at hin
      simp at hin
    exact ⟨hnil, fin hsz hne (fun p h => (hp p h).2.1) hev hnil⟩
  | succ fuel ih =>
    intro listed reps I n s hsz hshut hne hp hI hcov hev
    refine ⟨fin hsz hne (fun p h => (hp p h).2.1) hev, fun i hi => ?_⟩
    obtain ⟨hi1, hi2, o, ho, hall⟩ := mem_ready.1 hi
    have hiy : is[i]? = some is[i] := List.getElem?_eq_getElem (by omega)
    generalize is[i] = y at hiy
    refine ⟨y, hiy, ?_⟩
    have not_anc : ∀ n x, x < ops.size → listed.getD x true = false → anc ops x n i ≠ true := by
      intro n x hx1 hx2 hx
      have := anc_listed hshut n i hx (fun o' ho' e hee hb => by
        rw [ho, Option.some.injEq] at ho'
        subst ho'
        exact hall e hee hb)
      have hf := (listed_both hsz hx1).1 hx2
      rw [this] at hf
      cases hf
    -- the orders that are left
    have left : ∃ (reps' : List (List Nat × List (Nat × Nat))) (I' : List Nat) (n' : Nat), reps' ≠ [] ∧ (∀ p ∈ reps', p ∈ reps ∧ ∀ x, x ∈ p.1 → (x, i) ∉ p.2) ∧ (∀ k, k ∈ I' ↔ k ∈ I ∧ k ≠ i) ∧ cov ops n' I' (reps'.map (·.2)) = true := by
      by_cases hiI : i ∈ I
      · cases n with
        | zero =>
          simp only [cov, List.isEmpty_iff] at hcov
          rw [hcov] at hiI
          simp at hiI
        | succ n =>
          simp only [cov] at hcov
          have hc := List.all_eq_true.1 hcov i hiI
          simp only [Bool.or_eq_true, Bool.and_eq_true, Bool.not_eq_true'] at hc
          rcases hc with hc | ⟨hc1, hc2⟩
          · exfalso
            obtain ⟨x, hx, hxa⟩ := List.any_eq_true.1 hc
            obtain ⟨g1, g2⟩ := (hI x).1 hx
            exact not_anc 5 x (hI0 x g1) g2 hxa
          · rw [List.filter_map] at hc1 hc2
            refine ⟨_, _, n, ?_, ?_, ?_, hc2⟩
            · intro e
              rw [e] at hc1
              simp at hc1
            · intro p hpf
              obtain ⟨g1, g2⟩ := List.mem_filter.1 hpf
              refine ⟨g1, fun x hx hxi => ?_⟩
              simp only [Function.comp, Bool.not_eq_true'] at g2
              have := List.any_eq_false.1 g2 (x, i) hxi
              simp only [Bool.and_eq_true, beq_iff_eq, List.contains_iff_mem, true_and] at this
              exact this ((hI x).2 ⟨((hp p g1).2.2.1 _ hxi).1, (((hp p g1).2.1 x).1 hx).2⟩)
            · intro k
              simp [List.mem_filter]
      · refine ⟨reps, I, n, hne, fun p hpm => ⟨hpm, fun x hx hxi => hiI ((hI i).2 ⟨((hp p hpm).2.2.1 _ hxi).2, hi2⟩)⟩, fun k => ⟨fun hk => ⟨hk, fun e => hiI (e ▸ hk)⟩, fun hk => hk.1⟩, hcov⟩
    obtain ⟨reps', I', n', hne', hp', hI', hcov'⟩ := left
    -- each of them has it in front, or nearly
    have front' : ∀ p ∈ reps', ∃ pre post, p.1 = pre ++ i :: post ∧ takeI is y i p.1 = some (pre ++ post) ∧ i ∉ pre ∧ i ∉ post := by
      intro p hpm
      obtain ⟨hpr, hno⟩ := hp' p hpm
      obtain ⟨hpw, hmem, _, _⟩ := hp p hpr
      obtain ⟨pre, post, he⟩ := List.append_of_mem ((hmem i).2 ⟨hi1, hi2⟩)
      unfold PairsP at hpw
      rw [he] at hpw
      have hw := List.pairwise_append.1 hpw
      have hpre : ∀ x ∈ pre, x ≠ i ∧ ∃ a, is[x]? = some a ∧ freeI a y = true := by
        intro x hx
        obtain ⟨g1, a, b, g2, g3, g4⟩ := hw.2.2 x hx i (by simp)
        refine ⟨g1, a, g2, ?_⟩
        rw [hiy, Option.some.injEq] at g3
        subst g3
        have hxm : x ∈ p.1 := by rw [he]; simp [hx]
        obtain ⟨u1, u2⟩ := (hmem x).1 hxm
        rcases g4 with g4 | g4 | g4
        · exact g4
        · exact absurd g4 (not_anc 40 x u1 u2)
        · exact absurd g4 (hno x hxm)
      refine ⟨pre, post, he, by rw [he]; exact take_ok pre hpre, fun h => (hpre i h).1 rfl, fun h => ((List.pairwise_cons.1 hw.2.1).1 i h).1 rfl⟩
    refine ins1_mono (ins1_all (R := fun p : List Nat × List (Nat × Nat) => evR C Q (pickI is ((takeI is y i p.1).getD []))) reps' hne' ?_) ?_
    · intro p hpm
      obtain ⟨pre, post, he, ht, _⟩ := front' p hpm
      rw [ht]
      exact take_sound hiy p.1 _ s ht (hev p (hp' p hpm).1)
    · intro s' hs'
      refine ih (listed.setIfInBounds i true) (reps'.map fun p => ((takeI is y i p.1).getD [], p.2)) I' n' s' (by simp [hsz]) ?_ (by simpa using hne') ?_ ?_ ?_ ?_
      · intro j o' ho' hj e hee hb
        simp only [Array.getD_eq_getD_getElem?, Array.getElem?_setIfInBounds] at hj ⊢
        by_cases hei : i = e.on
        · rw [if_pos hei]
          have : i < listed.size := by omega
          simp [this]
        · rw [if_neg hei]
          by_cases hji : i = j
          · subst hji
            rw [ho, Option.some.injEq] at ho'
            subst ho'
            simpa [Array.getD_eq_getD_getElem?] using hall e hee hb
          · rw [if_neg hji] at hj
            simpa [Array.getD_eq_getD_getElem?] using hshut j o' ho' (by simpa [Array.getD_eq_getD_getElem?] using hj) e hee hb
      · intro p2 hp2
        obtain ⟨p, hpm, rfl⟩ := List.mem_map.1 hp2
        obtain ⟨pre, post, he, ht, hn1, hn2⟩ := front' p hpm
        obtain ⟨hpw, hmem, hA, hl⟩ := hp p (hp' p hpm).1
        simp only [ht, Option.getD_some]
        refine ⟨?_, fun j => ?_, hA, ?_⟩
        · unfold PairsP at hpw ⊢
          rw [he] at hpw
          have hw := List.pairwise_append.1 hpw
          exact List.pairwise_append.2 ⟨hw.1, (List.pairwise_cons.1 hw.2.1).2, fun a ha b hb => hw.2.2 a ha b (by simp [hb])⟩
        · have hset : (listed.setIfInBounds i true).getD j true = if i = j then true else listed.getD j true := by
            simp only [Array.getD_eq_getD_getElem?, Array.getElem?_setIfInBounds]
            by_cases hij : i = j
            · subst hij
              have : i < listed.size := by omega
              simp [this]
            · simp [hij]
          rw [hset]
          have hj := hmem j
          rw [he] at hj
          by_cases hij : i = j
          · subst hij
            simp [hn1, hn2]
          · rw [if_neg hij, ← hj]
            simp [Ne.symm hij]
        · rw [he] at hl
          simp at hl ⊢
          omega
      · intro k
        have hset : (listed.setIfInBounds i true).getD k true = if i = k then true else listed.getD k true := by
          simp only [Array.getD_eq_getD_getElem?, Array.getElem?_setIfInBounds]
          by_cases hij : i = k
          · subst hij
            have : i < listed.size := by omega
            simp [this]
          · simp [hij]
        rw [hI', hI, hset]
        by_cases hij : i = k
        · subst hij
          simp
        · simp [hij, Ne.symm hij]
      · rw [List.map_map]
        exact hcov'
      · intro p2 hp2
        obtain ⟨p, hpm, rfl⟩ := List.mem_map.1 hp2
        exact hs' p hpm

theorem chk_sound {C : Tab} {Q : St → Prop} {ops : Array Oper} {is : List Ins} {reps : List (List Nat × List (Nat × Nat))} {s : St} (h : chk ops is reps = true) (hev : ∀ p ∈ reps, evR C Q (pickI is p.1) s) : evAny C Q ops is ops.size (Array.replicate ops.size false) s := by
  simp only [chk, Bool.and_eq_true, Bool.not_eq_true', decide_eq_true_eq] at h
  obtain ⟨h1, h2, h3, h4, h5, h6⟩ := h
  refine alts_sound h4 (fun j o ho e he hb => ?_) (intr reps) (fun i hi => ?_) ops.size _ reps (intr reps) _ s (by simp) ?_ ?_ (fun p hp => ?_) (fun i => ?_) h6 hev
  · have := List.all_eq_true.1 h1 (o, j) (by rw [List.mem_zipIdx_iff_getElem?]; simpa using ho)
    have := Array.all_eq_true'.1 this e he
    simpa [hb] using this
  · simpa using List.all_eq_true.1 h5 i hi
  · intro i o ho hl
    simp [Array.getD_eq_getD_getElem?, Array.getElem?_replicate] at hl
    split at hl <;> simp at hl
  · intro e
    rw [e] at h3
    simp at h3
  · have g := List.all_eq_true.1 h2 p hp
    simp only [Bool.and_eq_true] at g
    have hpw := pairsOk_sound p.1 g.1
    have hmem : ∀ j, j ∈ p.1 ↔ j < ops.size := by
      intro j
      constructor
      · intro hj
        simpa using List.all_eq_true.1 g.2.2.2 j hj
      · intro hj
        have := List.all_eq_true.1 g.2.1 j (List.mem_range.2 hj)
        simpa using this
    refine ⟨hpw, fun j => ?_, fun q hq => ?_, ?_⟩
    · rw [hmem]
      constructor
      · intro hj
        exact ⟨hj, by simp [Array.getD_eq_getD_getElem?, Array.getElem?_replicate, hj]⟩
      · exact fun h => h.1
    · unfold intr
      rw [List.mem_eraseDups, List.mem_eraseDups]
      exact ⟨List.mem_flatMap.2 ⟨p, hp, List.mem_flatMap.2 ⟨q, hq, by simp⟩⟩, List.mem_flatMap.2 ⟨p, hp, List.mem_flatMap.2 ⟨q, hq, by simp⟩⟩⟩
    · simpa using g.2.2.1
  · constructor
    · intro hi
      have hlt : i < ops.size := by simpa using List.all_eq_true.1 h5 i hi
      exact ⟨hi, by simp [Array.getD_eq_getD_getElem?, Array.getElem?_replicate, hlt]⟩
    · exact fun h => h.1

theorem sim_drawn {s : St} {L : List LB} {a : Act} {w : World} {n : Nat} (hs : Sim w0 F0 X0 s L a w) : Sim w0 F0 X0 s L a { w with drawn := n } := by
  have e : Ext w L (ZZ X0 L) { w with drawn := n } L (ZZ X0 L) := ⟨Nat.le_refl _, fun _ _ _ => rfl, fun _ _ => rfl, fun _ h => .inl h, fun _ x h => ⟨x, h, .refl x⟩⟩
  refine ⟨⟨hs.mem.ll, fun i x hx => (hs.mem.blk i x hx).ext e (fun _ _ => rfl), hs.mem.inj, hs.mem.own, hs.mem.nx, ⟨hs.mem.fr.size, hs.mem.fr.same, hs.mem.fr.sz, hs.mem.fr.os, hs.mem.fr.tape, hs.mem.fr.output⟩, hs.mem.xl⟩, hs.tl, fun i hi => (hs.tv i hi).ext e, hs.df⟩

theorem wp_loop_n {c : Code} {QM : Exit → Act → World → Prop} (R : Nat → Act → World → Prop) (round : ∀ n a w, R n a w → c.wp P (Exit.then (fun a' w' => ∃ n', n' < n ∧ R n' a' w') QM) a w) {n : Nat} {a : Act} {w : World} (h0 : R n a w) : (Code.loop c).wp P QM a w := by
  intro b k cs
  have key : ∀ n a w, R n a w → ∃ e a' w', QM e a' w' ∧ Arrives P (lone (b.at a (.code c :: .inLoop c :: k)) cs w) b k cs e a' w' := by
    intro n
    induction n using Nat.strongRecOn with
    | _ n ih =>
      intro a w hI
      obtain ⟨e, a₁, w₁, hq, harr⟩ := round n a w hI b (.inLoop c :: k) cs
      cases e with
      | normal =>
        obtain ⟨n', hlt, hI₁⟩ := hq
        obtain ⟨e₂, a₂, w₂, hq₂, harr₂⟩ := ih n' hlt a₁ w₁ hI₁
        exact ⟨e₂, a₂, w₂, hq₂, .of_steps (Steps.trans harr (.one step_inLoop)) harr₂⟩
      | exit id => exact ⟨_, a₁, w₁, hq, .pass (x := .inLoop c) rfl (fun _ _ => .inl (by simp)) harr⟩
      | goto l => exact ⟨_, a₁, w₁, hq, .pass (x := .inLoop c) rfl (fun _ _ => .inl (by simp)) harr⟩
      | ret => exact ⟨_, a₁, w₁, hq, .pass (x := .inLoop c) rfl (fun _ _ => .inl (by simp)) harr⟩
      | panic ch => exact ⟨_, a₁, w₁, hq, .pass (x := .inLoop c) rfl (fun _ _ => .inl (by simp)) harr⟩
      | outgrown => exact ⟨_, a₁, w₁, hq, .pass (x := .inLoop c) rfl (fun _ _ => .inl (by simp)) harr⟩
  obtain ⟨e, a', w', hq, harr⟩ := key n a w h0
  exact ⟨e, a', w', hq, .of_steps (.one step_loop) harr⟩

theorem tidy_sound {s : St} {L : List LB} {a : Act} {w : World} {e : Nat} (hl : L0.length = e) (hs : Sim w0 F0 X0 s L a w) (he : Ext w0 L0 (ZZ X0 L0) w L (ZZ X0 L)) {R : St → Prop} (h : Tidy e R s) : Holds w0 F0 X0 L0 R a w := by
  rcases h with h | ⟨keep, s0, h1, h2⟩
  · exact ⟨s, L, hs, he, h⟩
  · obtain ⟨L', g1, g2⟩ := canon_sound hs he hl h1
    exact ⟨s0, L', g1, g2, h2⟩

theorem code_sound (hC : TabSound P C) {e : Nat} (hl : L0.length = e) : ∀ (c : Code) (ac : AC), resC P kt hws c = some ac → ∀ (Q : Ex → St → Prop) (s : St) (L : List LB) (a : Act) (w : World), Sim w0 F0 X0 s L a w → Ext w0 L0 (ZZ X0 L0) w L (ZZ X0 L) → awp e C ac Q s → c.wp P (PostS w0 F0 X0 L0 Q) a w := by
  intro c
  induction c with
  | skip =>
    intro ac h Q s L a w hs he hq
    simp only [resC, Option.some.injEq] at h
    subst h
    exact wp_skip ⟨s, L, hs, he, hq⟩
  | region id ops draw =>
    intro ac h Q s L a w hs he hq
    have hr : resR P kt hws id ops draw = some ac := h
    · unfold resR at hr
      split at hr
      · rename_i is' hz
        have hreads : ∀ (j : Nat) (y : Ins), is'[j]? = some y → ∃ o, ops[j]? = some o ∧ Reads1 P kt ops o y := by
          intro j y hy
          obtain ⟨h1, h2⟩ := zipO_some hz
          have hj : j < ops.toList.length := by
            have := (List.getElem?_eq_some_iff.1 hy).1
            omega
          obtain ⟨hw, z, g1, g2, g3⟩ := h2 j ops.toList[j] (List.getElem?_eq_getElem hj)
          rw [hy, Option.some.injEq] at g2
          subst g2
          refine ⟨ops.toList[j], by simpa using hj, hw, ?_⟩
          split at g3
          · rename_i ai g e1 e2
            simp only [Option.some.injEq] at g3
            subst g3
            exact ⟨e1, rfl, e2⟩
          · simp at g3
        have hlen : is'.length = ops.size := by simpa using (zipO_some hz).1
        cases draw with
        | true =>
          simp only at hr
          split at hr
          rotate_left
          · simp at hr
          rename_i hcm1
          split at hr
          · split at hr
            rotate_left
            · simp at hr
            rename_i hcm2
            simp only [Option.some.injEq] at hr
            subst hr
            refine wp_region_any hcm1 ?_
            refine any_sound (kt := kt) hC (Q := Q .normal) (fun a w h => h) hlen hreads hcm2 ops.size (Array.replicate ops.size false) (is'.zipIdx.map fun p => (p.2, p.1)) s L a _ (by simp) ?_ ?_ ?_ ?_ ?_ (sim_drawn hs) (he.trans ⟨Nat.le_refl _, fun _ _ _ => rfl, fun _ _ => rfl, fun _ h => .inl h, fun _ x h => ⟨x, h, .refl x⟩⟩) ?_
            · intro i o ho hl
              simp [Array.getD_eq_getD_getElem?, Array.getElem?_replicate] at hl
              split at hl <;> simp at hl
            · intro p hp
              obtain ⟨q, hq, rfl⟩ := List.mem_map.1 hp
              have hq' := List.mem_zipIdx_iff_getElem?.1 hq
              have hlt : q.2 < ops.size := by
                have := (List.getElem?_eq_some_iff.1 hq').1
                omega
              exact ⟨hq', by simp [Array.getD_eq_getD_getElem?, Array.getElem?_replicate, hlt]⟩
            · intro j y hy _
              exact List.mem_map.2 ⟨(y, j), List.mem_zipIdx_iff_getElem?.2 hy, rfl⟩
            · rw [List.pairwise_map]
              rw [List.pairwise_iff_getElem]
              intro i j hi hj hij
              simp
              exact hij
            · simp [hlen]
            · rw [List.map_map]
              have : (is'.zipIdx.map ((fun (p : Nat × Ins) => p.2) ∘ fun (p : Ins × Nat) => (p.2, p.1))) = is' := by
                apply List.ext_getElem? 
                intro i
                simp
                cases is'[i]? <;> simp
              rw [this]
              exact hq
          · split at hr
            rotate_left
            · simp at hr
            rename_i hchk
            simp only [Option.some.injEq] at hr
            subst hr
            refine wp_region_any hcm1 ?_
            refine evAny_sound (kt := kt) hC (Q := Q .normal) (fun a w h => h) hreads ops.size (Array.replicate ops.size false) s L a _ (sim_drawn hs) (he.trans ⟨Nat.le_refl _, fun _ _ _ => rfl, fun _ _ => rfl, fun _ h => .inl h, fun _ x h => ⟨x, h, .refl x⟩⟩) ?_
            exact chk_sound hchk (fun r hr => allR_mem _ hq _ (List.mem_map.2 ⟨r, hr, rfl⟩))
        | false =>
          simp only [Option.some.injEq] at hr
          subst hr
          refine wp_region ?_
          rw [List.range_eq_range', ← hlen]
          exact ops_sound (kt := kt) hC (Q := Q .normal) (fun a w h => h) is' 0 (by simpa using hlen) (fun j y hy => by rw [Nat.zero_add]; exact hreads j y hy) s L a w hs he hq
      · simp at hr
  | seq x y ihx ihy =>
    intro ac h Q s L a w hs he hq
    simp only [resC] at h
    cases hx : resC P kt hws x with
    | none => simp [hx] at h
    | some ax =>
      cases hy : resC P kt hws y with
      | none => simp [hx, hy] at h
      | some ay =>
        simp only [hx, hy, Option.some.injEq] at h
        subst h
        refine wp_seq (wp_mono (ihx ax hx _ s L a w hs he hq) ?_)
        intro e a' w' hp
        cases e with
        | normal =>
          obtain ⟨s', L', h1, h2, h3⟩ := hp
          obtain ⟨s', L', h1, h2, h3⟩ := tidy_sound hl h1 h2 h3
          exact ihy ay hy Q s' L' a' w' h1 h2 h3
        | exit id => exact hp
        | ret => exact hp
        | goto l => exact hp
        | panic ch => exact hp
        | outgrown => exact hp
  | cond c x y ihx ihy =>
    intro ac h Q s L a w hs he hq
    simp only [resC] at h
    cases hc : resO c with
    | none => simp [hc] at h
    | some c' =>
      cases hx : resC P kt hws x with
      | none => simp [hc, hx] at h
      | some ax =>
        cases hy : resC P kt hws y with
        | none => simp [hc, hx, hy] at h
        | some ay =>
          simp only [hc, hx, hy, Option.some.injEq] at h
          subst h
          have hr := resO_sound hs hc
          simp only [awp] at hq
          cases hv : c'.get s <;> simp only [hv] at hq
          rename_i t
          rw [hv] at hr
          refine wp_cond hr.bool_inv ?_
          cases t with
          | true => exact ihx ax hx Q s L a w hs he hq
          | false => exact ihy ay hy Q s L a w hs he hq
  | block id x ih =>
    intro ac h Q s L a w hs he hq
    simp only [resC] at h
    cases hx : resC P kt hws x with
    | none => simp [hx] at h
    | some ax =>
      simp only [hx, Option.some.injEq] at h
      subst h
      refine wp_block (wp_mono (ih ax hx _ s L a w hs he hq) ?_)
      intro e a' w' hp
      cases e with
      | normal => exact hp
      | exit j =>
        obtain ⟨s', L', h1, h2, h3⟩ := hp
        simp only [Exit.inBlock]
        by_cases hj : j = id
        · rw [if_pos hj]
          have : eqN j id = true := eqN_iff.2 hj
          simp only [this] at h3
          exact ⟨s', L', h1, h2, h3⟩
        · rw [if_neg hj]
          have : eqN j id = false := by
            cases hb : eqN j id with
            | false => rfl
            | true => exact absurd (eqN_iff.1 hb) hj
          simp only [this] at h3
          exact ⟨s', L', h1, h2, h3⟩
      | ret => exact hp
      | goto l => exact hp
      | panic ch => exact hp
      | outgrown => exact hp
  | loop x ih =>
    intro ac h Q s L a w hs he hq
    simp only [resC] at h
    cases hx : resC P kt hws x with
    | none => simp [hx] at h
    | some ax =>
      simp only [hx, Option.some.injEq] at h
      subst h
      obtain ⟨R, n, hR, hround⟩ := hq
      refine wp_loop_n (fun n a w => Holds w0 F0 X0 L0 (R n) a w) (fun n a w hI => ?_) (n := n) (tidy_sound hl hs he hR)
      obtain ⟨s1, L1, g1, g2, g3⟩ := hI
      refine wp_mono (ih ax hx _ s1 L1 a w g1 g2 (hround n s1 g3)) ?_
      intro e a' w' hp
      cases e with
      | normal =>
        obtain ⟨s', L', h1, h2, n', hlt, h3⟩ := hp
        exact ⟨n', hlt, tidy_sound hl h1 h2 h3⟩
      | exit id => exact hp
      | ret => exact hp
      | goto l => exact hp
      | panic ch => exact hp
      | outgrown => exact hp
  | exit id =>
    intro ac h Q s L a w hs he hq
    simp only [resC, Option.some.injEq] at h
    subst h
    exact wp_exit ⟨s, L, hs, he, hq⟩
  | ret =>
    intro ac h Q s L a w hs he hq
    simp only [resC, Option.some.injEq] at h
    subst h
    exact wp_ret ⟨s, L, hs, he, hq⟩
  | rangeFunc f params assign body ih1 ih2 => intro ac h; simp [resC] at h
  | scope x ih => intro ac h; simp [resC] at h
  | label l => intro ac h; simp [resC] at h
  | goto l => intro ac h; simp [resC] at h
  | refuse s => intro ac h; simp [resC] at h

end codes

end Go.Proofs.Ytnghlmogcbmlfaa
