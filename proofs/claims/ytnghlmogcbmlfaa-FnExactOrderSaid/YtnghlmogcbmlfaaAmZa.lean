/- Walking a small machine's code, one step at a time. -/
import Derived.Test.YtnghlmogcbmlfaaAmZ
namespace Go.Proofs.Ytnghlmogcbmlfaa
set_option linter.unusedVariables false
set_option linter.unusedSimpArgs false
set_option linter.unnecessarySimpa false

/-- What is still to be done: a code, or the end of a block. -/
inductive Kn where
  | code (a : AC)
  | blk (id : Nat)

def kon (e : Nat) (C : Tab) (Q : Ex → St → Prop) : List Kn → Ex → St → Prop
  | [], x, s => Q x s
  | .code a :: ks, x, s => match x with
    | .normal => awp e C a (kon e C Q ks) s
    | x => kon e C Q ks x s
  | .blk id :: ks, x, s => match x with
    | .exit j => match eqN j id with
      | true => kon e C Q ks .normal s
      | false => kon e C Q ks (.exit j) s
    | x => kon e C Q ks x s

theorem Tidy.mono {e : Nat} {R R' : St → Prop} {s : St} (h : Tidy e R s) (hk : ∀ s, R s → R' s) : Tidy e R' s := by
  rcases h with h | ⟨keep, s0, h1, h2⟩
  · exact .inl (hk _ h)
  · exact .inr ⟨keep, s0, h1, hk _ h2⟩

section
variable {e : Nat} {C : Tab} {Q : Ex → St → Prop} {ks : List Kn} {s : St}

theorem awp_mono : ∀ (a : AC) {Q Q' : Ex → St → Prop} {s : St}, awp e C a Q s → (∀ e s, Q e s → Q' e s) → awp e C a Q' s := by
  have evI_mono : ∀ (i : AI) {s : St} {K K' : AV → List Blk → Prop}, evI C i s K → (∀ v m, K v m → K' v m) → evI C i s K' := by
    intro i s K K' h hk
    have gen : ∀ v0 : Option (AV × List Blk), (match v0 with | some (v, m) => K v m | none => False) → (match v0 with | some (v, m) => K' v m | none => False) := by
      intro v0 h
      cases v0 with
      | none => exact h
      | some q => exact hk _ _ h
    cases i
    case isnil neg x =>
      simp only [evI] at h ⊢
      generalize x.get s = X at h ⊢
      cases X <;> first | exact h.elim | skip
      · exact fun b => hk _ _ (h b)
      · exact ⟨fun e => hk _ _ (h.1 e), hk _ _ h.2⟩
      · rename_i id v lo len
        simp only [nilQ] at h ⊢
        generalize bnth s.m id = B at h ⊢
        cases B <;> first | exact h.elim | skip
        rename_i v' k l
        simp only at h ⊢
        generalize eqN v v' = t at h ⊢
        cases t
        · exact h.elim
        · exact ⟨fun e => hk _ _ (h.1 e), hk _ _ h.2⟩
    case pick c a b =>
      simp only [evI] at h ⊢
      generalize c.get s = X at h ⊢
      cases X <;> first | exact h.elim | skip
      rename_i t
      cases t <;> exact hk _ _ h
    all_goals first | exact gen _ h | exact hk _ _ h | exact h.elim
  have evR_mono : ∀ (is : List Ins) {Q Q' : St → Prop} {s : St}, evR C Q is s → (∀ s, Q s → Q' s) → evR C Q' is s := by
    intro is
    induction is with
    | nil => intro Q Q' s h hq; exact hq s h
    | cons i is ih =>
      intro Q Q' s h hq
      obtain ⟨d, o, g⟩ := i
      simp only [evR] at h ⊢
      have go : evI C o s (fun v m => evR C Q is (s.put d v m)) → evI C o s (fun v m => evR C Q' is (s.put d v m)) := fun h => evI_mono _ h (fun v m h => ih h hq)
      cases g with
      | none => exact go h
      | some jw =>
        obtain ⟨j, w⟩ := jw
        simp only at h ⊢
        generalize nth s.t j = X at h ⊢
        cases X <;> first | exact h.elim | skip
        · exact ih h hq
        · rename_i b
          cases w <;> cases b
          · exact go h
          · exact ih h hq
          · exact ih h hq
          · exact go h
  intro a
  induction a with
  | skip => intro Q Q' s h hq; exact hq _ _ h
  | reg is => intro Q Q' s h hq; exact evR_mono is h (fun s h => hq _ _ h)
  | any l =>
    intro Q Q' s h hq
    have : ∀ l : List (List Ins), allR C (Q .normal) l s → allR C (Q' .normal) l s := by
      intro l
      induction l with
      | nil => intro h; trivial
      | cons a l ih => intro h; exact ⟨evR_mono a h.1 (fun s h => hq _ _ h), ih h.2⟩
    exact this l h
  | seq a b iha ihb =>
    intro Q Q' s h hq
    refine iha h (fun e s h => ?_)
    cases e with
    | normal => exact h.mono fun s h => ihb h hq
    | exit id => exact hq _ _ h
    | ret => exact hq _ _ h
  | cond c a b iha ihb =>
    intro Q Q' s h hq
    simp only [awp] at h ⊢
    generalize c.get s = X at h ⊢
    cases X <;> first | exact h.elim | skip
    rename_i t
    cases t
    · exact ihb h hq
    · exact iha h hq
  | block id a ih =>
    intro Q Q' s h hq
    refine ih h (fun e s h => ?_)
    cases e with
    | normal => exact hq _ _ h
    | exit j =>
      simp only at h ⊢
      generalize eqN j id = t at h ⊢
      cases t <;> exact hq _ _ h
    | ret => exact hq _ _ h
  | loop a ih =>
    intro Q Q' s h hq
    obtain ⟨R, n, h1, h2⟩ := h
    refine ⟨R, n, h1, fun n s h => ih (h2 n s h) (fun e s h => ?_)⟩
    cases e with
    | normal => exact h
    | exit id => exact hq _ _ h
    | ret => exact hq _ _ h
  | exit id => intro Q Q' s h hq; exact hq _ _ h
  | ret => intro Q Q' s h hq; exact hq _ _ h

theorem kon_seq {a b : AC} (h : kon e C Q (.code a :: .code b :: ks) .normal s) : kon e C Q (.code (.seq a b) :: ks) .normal s :=
  awp_mono a h (fun x s h => by cases x <;> first | exact .inl h | exact h)

/-- What is asked where ways meet. -/
def midQ (e : Nat) (C : Tab) (Q : Ex → St → Prop) (ks : List Kn) (keep : List Nat) (R : St → Prop) (x : Ex) (s : St) : Prop :=
  match x with
  | .normal => ∃ s0, canon e keep s = some s0 ∧ R s0
  | x => kon e C Q ks x s

/-- Ways meet: the state behind a code, tidied. -/
theorem kon_mid {a b : AC} (keep : List Nat) (R : St → Prop) (h1 : kon e C (midQ e C Q ks keep R) [.code a] .normal s) (h2 : ∀ s, R s → kon e C Q (.code b :: ks) .normal s) : kon e C Q (.code (.seq a b) :: ks) .normal s :=
  awp_mono a h1 (fun x s h => by
    cases x with
    | normal =>
      obtain ⟨s0, g1, g2⟩ := h
      exact .inr ⟨keep, s0, g1, h2 s0 g2⟩
    | exit id => exact h
    | ret => exact h)
theorem mid_exit {keep : List Nat} {R : St → Prop} {j : Nat} (h : kon e C Q ks (.exit j) s) : kon e C (midQ e C Q ks keep R) [] (.exit j) s := h
theorem mid_ret {keep : List Nat} {R : St → Prop} (h : kon e C Q ks .ret s) : kon e C (midQ e C Q ks keep R) [] .ret s := h
theorem mid_on {keep : List Nat} {R : St → Prop} (h : match canon e keep s with | some s0 => R s0 | none => False) : kon e C (midQ e C Q ks keep R) [] .normal s := by
  cases hc : canon e keep s with
  | none => simp only [hc] at h
  | some s0 =>
    simp only [hc] at h
    exact ⟨s0, hc, h⟩
theorem kon_skip (h : kon e C Q ks .normal s) : kon e C Q (.code .skip :: ks) .normal s := h
theorem kon_any {a : List Ins} {l : List (List Ins)} (h1 : kon e C Q (.code (.reg a) :: ks) .normal s) (h2 : kon e C Q (.code (.any l) :: ks) .normal s) : kon e C Q (.code (.any (a :: l)) :: ks) .normal s := ⟨h1, h2⟩
theorem kon_any_nil : kon e C Q (.code (.any []) :: ks) .normal s := trivial
theorem kon_nil (h : kon e C Q ks .normal s) : kon e C Q (.code (.reg []) :: ks) .normal s := h
theorem kon_ret (h : kon e C Q ks .ret s) : kon e C Q (.code .ret :: ks) .normal s := h
theorem kon_exit {id : Nat} (h : kon e C Q ks (.exit id) s) : kon e C Q (.code (.exit id) :: ks) .normal s := h
theorem kon_past_ret {a : AC} (h : kon e C Q ks .ret s) : kon e C Q (.code a :: ks) .ret s := h
theorem kon_past_exit {a : AC} {id : Nat} (h : kon e C Q ks (.exit id) s) : kon e C Q (.code a :: ks) (.exit id) s := h
theorem kon_blk_ret {id : Nat} (h : kon e C Q ks .ret s) : kon e C Q (.blk id :: ks) .ret s := h
theorem kon_blk_end {id : Nat} (h : kon e C Q ks .normal s) : kon e C Q (.blk id :: ks) .normal s := h
theorem kon_blk_exit {id : Nat} (h : kon e C Q ks .normal s) : kon e C Q (.blk id :: ks) (.exit id) s := by
  simp only [kon, eqN_self]
  exact h
theorem kon_blk_past {id j : Nat} (hj : eqN j id = false) (h : kon e C Q ks (.exit j) s) : kon e C Q (.blk id :: ks) (.exit j) s := by
  simp only [kon, hj]
  exact h
theorem kon_block {id : Nat} {a : AC} (h : kon e C Q (.code a :: .blk id :: ks) .normal s) : kon e C Q (.code (.block id a) :: ks) .normal s :=
  awp_mono a h (fun e s h => by cases e <;> exact h)
theorem kon_ins {d : Option Nat} {o : AI} {r : List Ins} (h : ∀ R : St → Prop, (∀ s, kon e C Q (.code (.reg r) :: ks) .normal s → R s) → evI C o s fun v m => R (s.put d v m)) : kon e C Q (.code (.reg (⟨d, o, none⟩ :: r)) :: ks) .normal s :=
  h _ (fun _ h => h)
theorem kon_g {d : Option Nat} {o : AI} {r : List Ins} {j : Nat} {w : Bool} (h : ∀ R : St → Prop, (∀ s, kon e C Q (.code (.reg r) :: ks) .normal s → R s) → match nth s.t j with
      | .bool b => match b with
        | true => match w with
          | true => evI C o s fun v m => R (s.put d v m)
          | false => R (s.put d .undef s.m)
        | false => match w with
          | true => R (s.put d .undef s.m)
          | false => evI C o s fun v m => R (s.put d v m)
      | .undef => R (s.put d .undef s.m)
      | _ => False) : kon e C Q (.code (.reg (⟨d, o, some (j, w)⟩ :: r)) :: ks) .normal s := by
  have := h _ (fun _ h => h)
  simp only [kon, awp, evR]
  generalize nth s.t j = X at this ⊢
  cases X <;> first | exact this.elim | skip
  · exact this
  · rename_i b
    cases w <;> cases b <;> exact this
theorem kon_cond {c : O} {a b : AC} (h : ∀ R1 R2 : Prop, (kon e C Q (.code a :: ks) .normal s → R1) → (kon e C Q (.code b :: ks) .normal s → R2) → match c.get s with
      | .bool t => match t with
        | true => R1
        | false => R2
      | _ => False) : kon e C Q (.code (.cond c a b) :: ks) .normal s := h _ _ id id
/-- What is asked behind a round of a loop. -/
def loopQ (e : Nat) (C : Tab) (Q : Ex → St → Prop) (ks : List Kn) (keep : List Nat) (R : Nat → St → Prop) (n : Nat) (x : Ex) (s : St) : Prop :=
  match x with
  | .normal => ∃ n' s0, n' < n ∧ canon e keep s = some s0 ∧ R n' s0
  | x => kon e C Q ks x s

theorem kon_rounds {a : AC} (keep : List Nat) (R : Nat → St → Prop) (h0 : match canon e keep s with | some s0 => ∃ n, R n s0 | none => False) (h : ∀ n s, R n s → kon e C (loopQ e C Q ks keep R n) [.code a] .normal s) : kon e C Q (.code (.loop a) :: ks) .normal s := by
  cases hc : canon e keep s with
  | none => simp only [hc] at h0
  | some s0 =>
  simp only [hc] at h0
  obtain ⟨n, h0⟩ := h0
  exact ⟨R, n, .inr ⟨keep, s0, hc, h0⟩, fun n s hR => awp_mono a (h n s hR) (fun x s h => by
    cases x with
    | normal =>
      obtain ⟨n', s0, g1, g2, g3⟩ := h
      exact ⟨n', g1, .inr ⟨keep, s0, g2, g3⟩⟩
    | exit id => exact h
    | ret => exact h)⟩
theorem loop_exit {keep : List Nat} {R : Nat → St → Prop} {n j : Nat} (h : kon e C Q ks (.exit j) s) : kon e C (loopQ e C Q ks keep R n) [] (.exit j) s := h
theorem loop_ret {keep : List Nat} {R : Nat → St → Prop} {n : Nat} (h : kon e C Q ks .ret s) : kon e C (loopQ e C Q ks keep R n) [] .ret s := h
theorem loop_again {keep : List Nat} {R : Nat → St → Prop} {n : Nat} (h : match canon e keep s with | some s0 => ∃ n', n' < n ∧ R n' s0 | none => False) : kon e C (loopQ e C Q ks keep R n) [] .normal s := by
  cases hc : canon e keep s with
  | none => simp only [hc] at h
  | some s0 =>
    simp only [hc] at h
    obtain ⟨n', h1, h2⟩ := h
    exact ⟨n', s0, h1, hc, h2⟩

/-- What is asked at a function's end. -/
def endQ (f : AF) (c : Con) (vs : List AV) (out : AV × List AV) (e : Ex) (s : St) : Prop :=
  match e with
  | .exit _ => False
  | _ => match resA s f.rs with
    | some r => finA c vs r s.m = some out
    | none => False

theorem does_of {f : AF} {c : Con} {as : List AV} {out : AV × List AV} (hr : c.run as = some out) {vs : List AV} (he : entryA f.nt as = some (vs, s)) (h : kon s.m.length C (endQ f c vs out) [.code f.c] .normal s) : Does C f c as := by
  unfold Does
  simp only [hr, he]
  exact awp_mono f.c h (fun e s h => by cases e <;> exact h)

theorem does_by {f : AF} {c : Con} {as : List AV} {out : AV × List AV} (hr : c.run as = some out)
    (h : ∀ Q : List AV → Ex → St → Prop, (∀ vs e s, endQ f c vs out e s → Q vs e s) → match entryA f.nt as with
      | some (vs, s) => kon s.m.length C (Q vs) [.code f.c] .normal s
      | none => False) : Does C f c as := by
  have h1 := h (fun vs => endQ f c vs out) (fun vs e s h => h)
  cases he : entryA f.nt as with
  | none => simp only [he] at h1
  | some q =>
    simp only [he] at h1
    exact does_of hr he h1

theorem does_none {f : AF} {c : Con} {as : List AV} (hr : c.run as = none) : Does C f c as := by
  unfold Does
  rw [hr]
  trivial
end

theorem agg_of {P : Program} {W : World} {base : Nat} {t : TypeId} {v : Value} (h : Value.okWide P W .any base t v) (ha : aggT P t = some true) : ∃ cs, v = .agg cs := by
  unfold Value.okWide at h
  unfold aggT at ha
  split at h
  · obtain ⟨cs, h1, _⟩ := h
    exact ⟨cs, h1⟩
  · obtain ⟨cs, h1, _⟩ := h
    exact ⟨cs, h1⟩
  · rename_i h1 h2
    exfalso
    cases hu : P.underlying t with
    | none => simp [hu] at ha
    | some ty =>
      rw [hu] at ha
      cases ty <;> simp at ha
      · exact h2 _ _ hu
      · exact h1 _ hu

theorem cell_of {P : Program} {W : World} {base : Nat} {t : TypeId} {v : Value} (h : Value.okWide P W .any base t v) (ha : aggT P t = some false) : v.cells = #[v] := by
  unfold aggT at ha
  have hne : ∀ cs, v ≠ .agg cs := by
    rintro cs rfl
    unfold Value.okWide at h
    cases hu : P.underlying t with
    | none => simp [hu] at ha
    | some ty =>
      rw [hu] at ha h
      cases ty <;> simp [Cell.okWide, Cell.ok, hu] at ha h
  cases v <;> first | rfl | exact absurd rfl (hne _)

/-- A law's row: it gives back true, and turns nothing that was there. -/
theorem law_calls {P : Program} {f : FuncId} {c : Con} (hS : Sound P f c) {as : List AV} {args : Array Value} {W : World} (hrun : c.run as = some (.bool true, [])) (hrep : RepL W (fun _ => False) as args.toList []) {R : Value → World → Prop}
    (h : ∀ V W', V = .bool true → Frame W W' (fun _ => False) → R V W') : Calls P f args W fun e W' => ∃ v, e = .returned v ∧ R v W' := by
  have := hS.2 as (.bool true) [] hrun W args.toList [] (fun _ => False) (hrep.mono (fun b hb => by simpa using hb)) .nil (fun b hb => by simp at hb) (fun b hb => hb.elim)
  rw [Array.toArray_toList] at this
  refine this.mono ?_
  rintro e W' ⟨V, F', rfl, hR, _, _, hfr⟩
  refine ⟨V, rfl, h V W' ?_ ⟨hfr.size, fun b hb _ => hfr.same b hb (by simp), hfr.sz, hfr.os, hfr.tape, hfr.output⟩⟩
  obtain ⟨F1, F2, _, h1, _⟩ := hR.cons_inv
  cases h1 with
  | plain h1 _ => exact h1.bool_inv

end Go.Proofs.Ytnghlmogcbmlfaa
