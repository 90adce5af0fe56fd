/- Two instructions that may be taken in either order, and a list of which one is taken first. -/
import Derived.Test.YtnghlmogcbmlfaaAmWa
namespace Go.Proofs.Ytnghlmogcbmlfaa
set_option linter.unusedVariables false
set_option linter.unusedSimpArgs false

section
variable {C : Tab}

theorem evI_mono' (i : AI) {s : St} {K K' : AV → List Blk → Prop} (h : evI C i s K) (hk : ∀ v m, K v m → K' v m) : evI C i s K' := by
  have gen : ∀ v0 : Option (AV × List Blk), (match v0 with | some (v, m) => K v m | none => False) → (match v0 with | some (v, m) => K' v m | none => False) := by
    intro v0 h
    cases v0 with
    | none => exact h
    | some q => exact hk _ _ h
  cases i
  case isnil neg x =>
    simp only [evI] at h ⊢
    generalize x.get s = X at h ⊢
    cases X <;> first | exact h.elim | skip
    · exact fun b => hk _ _ (h b)
    · exact ⟨fun e => hk _ _ (h.1 e), hk _ _ h.2⟩
    · rename_i id v lo len
      simp only [nilQ] at h ⊢
      generalize bnth s.m id = B at h ⊢
      cases B <;> first | exact h.elim | skip
      rename_i v' k l
      simp only at h ⊢
      generalize eqN v v' = t at h ⊢
      cases t
      · exact h.elim
      · exact ⟨fun e => hk _ _ (h.1 e), hk _ _ h.2⟩
  case pick c a b =>
    simp only [evI] at h ⊢
    generalize c.get s = X at h ⊢
    cases X <;> first | exact h.elim | skip
    rename_i t
    cases t <;> exact hk _ _ h
  all_goals first | exact gen _ h | exact hk _ _ h | exact h.elim

theorem evI_and (i : AI) {s : St} {K K' : AV → List Blk → Prop} (h : evI C i s K) (h' : evI C i s K') : evI C i s fun v m => K v m ∧ K' v m := by
  have gen : ∀ v0 : Option (AV × List Blk), (match v0 with | some (v, m) => K v m | none => False) → (match v0 with | some (v, m) => K' v m | none => False) → (match v0 with | some (v, m) => K v m ∧ K' v m | none => False) := by
    intro v0 h h'
    cases v0 with
    | none => exact h
    | some q => exact ⟨h, h'⟩
  cases i
  case isnil neg x =>
    simp only [evI] at h h' ⊢
    generalize x.get s = X at h h' ⊢
    cases X <;> first | exact h.elim | skip
    · exact fun b => ⟨h b, h' b⟩
    · exact ⟨fun e => ⟨h.1 e, h'.1 e⟩, h.2, h'.2⟩
    · rename_i id v lo len
      simp only [nilQ] at h h' ⊢
      generalize bnth s.m id = B at h h' ⊢
      cases B <;> first | exact h.elim | skip
      rename_i v' k l
      simp only at h h' ⊢
      generalize eqN v v' = t at h h' ⊢
      cases t
      · exact h.elim
      · exact ⟨fun e => ⟨h.1 e, h'.1 e⟩, h.2, h'.2⟩
  case pick c a b =>
    simp only [evI] at h h' ⊢
    generalize c.get s = X at h h' ⊢
    cases X <;> first | exact h.elim | skip
    rename_i t
    cases t <;> exact ⟨h, h'⟩
  all_goals first | exact gen _ h h' | exact ⟨h, h'⟩ | exact h.elim

theorem evI_some (i : AI) {s : St} {K : AV → List Blk → Prop} (h : evI C i s K) : ∃ v m, K v m := by
  have gen : ∀ v0 : Option (AV × List Blk), (match v0 with | some (v, m) => K v m | none => False) → ∃ v m, K v m := by
    intro v0 h
    cases v0 with
    | none => exact h.elim
    | some q => exact ⟨_, _, h⟩
  cases i
  case isnil neg x =>
    simp only [evI] at h
    generalize x.get s = X at h
    cases X <;> first | exact h.elim | skip
    · exact ⟨_, _, h true⟩
    · exact ⟨_, _, h.2⟩
    · rename_i id v lo len
      simp only [nilQ] at h
      generalize bnth s.m id = B at h
      cases B <;> first | exact h.elim | skip
      rename_i v' k l
      simp only at h
      generalize eqN v v' = t at h
      cases t
      · exact h.elim
      · exact ⟨_, _, h.2⟩
  case pick c a b =>
    simp only [evI] at h
    generalize c.get s = X at h
    cases X <;> first | exact h.elim | skip
    rename_i t
    cases t <;> exact ⟨_, _, h⟩
  all_goals first | exact gen _ h | exact ⟨_, _, h⟩ | exact h.elim

/-- What a quiet instruction tells is told by what it looks at. -/
theorem quiet_iff {i : AI} {s : St} {K : AV → List Blk → Prop} (hq : cls i ≤ 2) (h : evI C i s K) : ∃ v, K v s.m ∧ ∀ (s' : St) (K' : AV → List Blk → Prop), (∀ x ∈ i.opsL, O.get s x = O.get s' x) → (Mono s.m s'.m ∨ cls i = 0) → (evI C i s' K' ↔ K' v s'.m) := by
  obtain ⟨v, h1, h2⟩ := quiet hq h
  refine ⟨v, h1, fun s' K' ho hm => ⟨fun h' => ?_, h2 s' K' ho hm⟩⟩
  have a := h2 s' (fun u _ => u = v) ho hm rfl
  obtain ⟨u, ⟨e1, e2⟩, _⟩ := quiet hq (evI_and i a h')
  rw [← e1]
  exact e2

/-- One instruction. -/
def ins1 (C : Tab) (y : Ins) (s : St) (R : St → Prop) : Prop := evR C R [y] s

theorem evR_cons {y : Ins} {r : List Ins} {s : St} {Q : St → Prop} : evR C Q (y :: r) s = ins1 C y s (evR C Q r) := rfl

theorem ins1_def {y : Ins} {s : St} {R : St → Prop} : ins1 C y s R = match y.g with
    | none => evI C y.o s fun v m => R (s.put y.d v m)
    | some (j, w) => match nth s.t j with
      | .bool b => match w with
        | true => match b with
          | true => evI C y.o s fun v m => R (s.put y.d v m)
          | false => R (s.put y.d .undef s.m)
        | false => match b with
          | true => R (s.put y.d .undef s.m)
          | false => evI C y.o s fun v m => R (s.put y.d v m)
      | .undef => R (s.put y.d .undef s.m)
      | _ => False := rfl

/-- Either it is taken, or passed by: and that hangs on what it looks at alone. -/
theorem ins1_cases {y : Ins} {s : St} {R : St → Prop} (h : ins1 C y s R) :
    (evI C y.o s (fun v m => R (s.put y.d v m)) ∧ ∀ (s' : St) (R' : St → Prop), (∀ j ∈ y.looks, nth s.t j = nth s'.t j) → (ins1 C y s' R' ↔ evI C y.o s' fun v m => R' (s'.put y.d v m))) ∨
    (R (s.put y.d .undef s.m) ∧ ∀ (s' : St) (R' : St → Prop), (∀ j ∈ y.looks, nth s.t j = nth s'.t j) → (ins1 C y s' R' ↔ R' (s'.put y.d .undef s'.m))) := by
  obtain ⟨d, o, g⟩ := y
  cases g with
  | none => exact .inl ⟨h, fun s' R' _ => Iff.rfl⟩
  | some jw =>
    obtain ⟨j, w⟩ := jw
    have hj : ∀ s' : St, (∀ k ∈ (Ins.mk d o (some (j, w))).looks, nth s.t k = nth s'.t k) → nth s.t j = nth s'.t j := fun s' h => h j (by simp [Ins.looks])
    rw [ins1_def] at h
    simp only at h
    cases hv : nth s.t j <;> simp only [hv] at h
    case undef =>
      refine .inr ⟨h, fun s' R' hl => ?_⟩
      rw [ins1_def]
      simp only [← hj s' hl, hv]
    case bool b =>
      cases w <;> cases b <;> simp only at h
      · refine .inl ⟨h, fun s' R' hl => ?_⟩
        rw [ins1_def]
        simp only [← hj s' hl, hv]
      · refine .inr ⟨h, fun s' R' hl => ?_⟩
        rw [ins1_def]
        simp only [← hj s' hl, hv]
      · refine .inr ⟨h, fun s' R' hl => ?_⟩
        rw [ins1_def]
        simp only [← hj s' hl, hv]
      · refine .inl ⟨h, fun s' R' hl => ?_⟩
        rw [ins1_def]
        simp only [← hj s' hl, hv]

theorem looks_get {y : Ins} {s s' : St} (h : ∀ j ∈ y.looks, nth s.t j = nth s'.t j) : ∀ x ∈ y.o.opsL, O.get s x = O.get s' x := by
  intro x hx
  cases x with
  | c v => rfl
  | t i => exact h i (List.mem_append.2 (.inl (List.mem_filterMap.2 ⟨.t i, hx, rfl⟩)))

theorem ins1_mono {y : Ins} {s : St} {R R' : St → Prop} (h : ins1 C y s R) (hk : ∀ s, R s → R' s) : ins1 C y s R' := by
  rcases ins1_cases h with ⟨h1, h2⟩ | ⟨h1, h2⟩
  · exact (h2 s R' fun _ _ => rfl).2 (evI_mono' _ h1 fun v m h => hk _ h)
  · exact (h2 s R' fun _ _ => rfl).2 (hk _ h1)

theorem ins1_congr {y : Ins} {s s' : St} {R R' : St → Prop} (hl : ∀ j ∈ y.looks, nth s.t j = nth s'.t j) (hm : s.m = s'.m) (hk : ∀ v m, R (s.put y.d v m) → R' (s'.put y.d v m)) (h : ins1 C y s R) : ins1 C y s' R' := by
  rcases ins1_cases h with ⟨h1, h2⟩ | ⟨h1, h2⟩
  · exact (h2 s' R' hl).2 (evI_congr hm (looks_get hl) (evI_mono' _ h1 fun v m h => hk _ _ h))
  · exact (h2 s' R' hl).2 (by rw [← hm]; exact hk _ _ h1)

theorem ins1_some {y : Ins} {s : St} {R : St → Prop} (h : ins1 C y s R) : ∃ v m, R (s.put y.d v m) := by
  rcases ins1_cases h with ⟨h1, h2⟩ | ⟨h1, h2⟩
  · exact evI_some _ h1
  · exact ⟨_, _, h1⟩

theorem ins1_quiet {y : Ins} {s : St} {R : St → Prop} (hq : cls y.o ≤ 2) (h : ins1 C y s R) : ∃ v, R (s.put y.d v s.m) ∧ ∀ (s' : St) (R' : St → Prop), (∀ j ∈ y.looks, nth s.t j = nth s'.t j) → (Mono s.m s'.m ∨ cls y.o = 0) → (ins1 C y s' R' ↔ R' (s'.put y.d v s'.m)) := by
  rcases ins1_cases h with ⟨h1, h2⟩ | ⟨h1, h2⟩
  · obtain ⟨v, g1, g2⟩ := quiet_iff hq h1
    exact ⟨v, g1, fun s' R' hl hm => (h2 s' R' hl).trans (g2 s' _ (looks_get hl) hm)⟩
  · exact ⟨.undef, h1, fun s' R' hl _ => h2 s' R' hl⟩

theorem setN_comm {l : List AV} {i j : Nat} {x y : AV} (h : i ≠ j) : setN (setN l i x) j y = setN (setN l j y) i x := by
  induction l generalizing i j with
  | nil => rfl
  | cons a l ih =>
    cases i with
    | zero => cases j with
      | zero => exact absurd rfl h
      | succ j => rfl
    | succ i => cases j with
      | zero => rfl
      | succ j => exact congrArg (a :: ·) (ih fun e => h (by rw [e]))

theorem memN_not {d : Nat} {l : List Nat} (h : (!memN d l) = true) : d ∉ l := memN_iff (by simpa using h)

theorem put_look {l : List Nat} {s : St} {d : Option Nat} {v : AV} {m : List Blk} (h : hasNo l d = true) : ∀ j ∈ l, nth (s.put d v m).t j = nth s.t j := by
  intro j hj
  cases d with
  | none => rfl
  | some d =>
    have : d ∉ l := memN_not h
    exact nth_setN_other fun e => this (e ▸ hj)

theorem put_comm {s : St} {d e : Option Nat} {v u : AV} {m m1 m2 : List Blk} (h : unlike d e = true) : (s.put d v m1).put e u m = (s.put e u m2).put d v m := by
  cases d with
  | none => cases e <;> rfl
  | some d => cases e with
    | none => rfl
    | some e =>
      have hne : d ≠ e := by
        intro he
        have := eqN_iff.2 he
        simp [unlike, this] at h
      show St.mk (setN (setN s.t d v) e u) m = St.mk (setN (setN s.t e u) d v) m
      rw [setN_comm hne]

/-- An instruction that makes a block, and does nothing else to memory. -/
theorem new_evI {i : AI} {s : St} {K : AV → List Blk → Prop} (hn : isNew i = true) (h : evI C i s K) : ∃ u b, K u (s.m ++ [b]) ∧ ∀ (s' : St) (K' : AV → List Blk → Prop), (∀ x ∈ i.opsL, O.get s x = O.get s' x) → s'.m = s.m → (evI C i s' K' ↔ K' u (s.m ++ [b])) := by
  cases i <;> try (simp [isNew] at hn; done)
  case box x =>
    refine ⟨_, _, h, fun s' K' ho hm => ?_⟩
    have hx := ho x (by simp [AI.opsL])
    simp only [evI, stepI, ← hx, hm]
  case s2b x =>
    simp only [evI, stepI] at h
    cases hv : x.get s <;> simp only [hv] at h
    refine ⟨_, _, h, fun s' K' ho hm => ?_⟩
    have hx := ho x (by simp [AI.opsL])
    simp only [evI, stepI, ← hx, hv, hm]
  case mk k z l c =>
    simp only [evI, stepI] at h
    cases hv : l.get s <;> simp only [hv] at h
    cases hu : c.get s <;> simp only [hu] at h
    split at h
    · rename_i v m he
      split at he
      · rename_i hc
        simp only [Option.some.injEq, Prod.mk.injEq] at he
        obtain ⟨rfl, rfl⟩ := he
        refine ⟨_, _, h, fun s' K' ho hm => ?_⟩
        have hx := ho l (by simp [AI.opsL])
        have hy := ho c (by simp [AI.opsL])
        simp only [evI, stepI, ← hx, ← hy, hv, hu, hm]
        rw [if_pos hc]
      · simp at he
    · exact h.elim

theorem ins1_new {y : Ins} {s : St} {R : St → Prop} (hn : isNew y.o = true) (h : ins1 C y s R) : ∃ u m1, Mono s.m m1 ∧ R (s.put y.d u m1) ∧ ∀ (s' : St) (R' : St → Prop), (∀ j ∈ y.looks, nth s.t j = nth s'.t j) → s'.m = s.m → (ins1 C y s' R' ↔ R' (s'.put y.d u m1)) := by
  rcases ins1_cases h with ⟨h1, h2⟩ | ⟨h1, h2⟩
  · obtain ⟨u, b, g1, g2⟩ := new_evI hn h1
    exact ⟨u, _, Mono.app _ b, g1, fun s' R' hl hm => (h2 s' R' hl).trans (g2 s' _ (looks_get hl) hm)⟩
  · exact ⟨.undef, s.m, Mono.refl _, h1, fun s' R' hl hm => by rw [h2 s' R' hl, hm]⟩

theorem swap {x y : Ins} {s : St} {R : St → Prop} (hf : freeI x y = true) (h : ins1 C x s fun s1 => ins1 C y s1 R) : ins1 C y s fun s1 => ins1 C x s1 R := by
  simp only [freeI, apartI, Bool.and_eq_true, Bool.or_eq_true, beq_iff_eq, decide_eq_true_eq] at hf
  obtain ⟨⟨⟨hx, hy⟩, hxy⟩, hc⟩ := hf
  rcases hc with ((hc | hc) | ⟨hcx, hcy⟩) | ⟨hcx, hn⟩
  · obtain ⟨v, h1, h2⟩ := ins1_quiet (by omega) h
    refine ins1_congr (s := s.put x.d v s.m) (fun j hj => put_look hx j hj) (by cases x.d <;> rfl) (fun u m hR => ?_) h1
    refine (h2 (s.put y.d u m) R (fun j hj => (put_look hy j hj).symm) (.inr hc)).2 ?_
    have hm : (s.put y.d u m).m = m := by cases y.d <;> rfl
    rw [hm, ← put_comm (m1 := s.m) hxy]
    exact hR
  · obtain ⟨v0, m0, h0⟩ := ins1_some h
    obtain ⟨u, _, h2⟩ := ins1_quiet (by omega) h0
    have hl : ∀ (v : AV) (m : List Blk), ∀ j ∈ y.looks, nth (s.put x.d v m).t j = nth s.t j := fun v m j hj => put_look hx j hj
    refine (h2 s _ (fun j hj => hl v0 m0 j hj) (.inr hc)).2 ?_
    refine ins1_congr (s := s) (fun j hj => (put_look hy j hj).symm) (by cases y.d <;> rfl) (fun v m hR => ?_) h
    have := (h2 (s.put x.d v m) R (fun j hj => by rw [hl, hl]; exact hj; exact hj) (.inr hc)).1 hR
    have hm : (s.put x.d v m).m = m := by cases x.d <;> rfl
    rw [hm, put_comm (m2 := s.m) hxy] at this
    exact this
  · obtain ⟨v, h1, h2⟩ := ins1_quiet hcx h
    obtain ⟨u, h3, h4⟩ := ins1_quiet hcy h1
    have hmx : (s.put x.d v s.m).m = s.m := by cases x.d <;> rfl
    have hmy : (s.put y.d u s.m).m = s.m := by cases y.d <;> rfl
    refine (h4 s _ (fun j hj => put_look hx j hj) (.inl (by rw [hmx]; exact Mono.refl _))).2 ?_
    refine (h2 (s.put y.d u s.m) R (fun j hj => (put_look hy j hj).symm) (.inl (by rw [hmy]; exact Mono.refl _))).2 ?_
    rw [hmy, ← put_comm (m1 := s.m) hxy]
    rw [hmx] at h3
    exact h3
  · obtain ⟨v, h1, h2⟩ := ins1_quiet hcx h
    obtain ⟨u, m1, hmono, h3, h4⟩ := ins1_new hn h1
    have hmx : (s.put x.d v s.m).m = s.m := by cases x.d <;> rfl
    have hmy : (s.put y.d u m1).m = m1 := by cases y.d <;> rfl
    rw [hmx] at hmono
    refine (h4 s _ (fun j hj => put_look hx j hj) hmx.symm).2 ?_
    refine (h2 (s.put y.d u m1) R (fun j hj => (put_look hy j hj).symm) (.inl (by rw [hmy]; exact hmono))).2 ?_
    rw [hmy, ← put_comm (m1 := s.m) hxy]
    exact h3

theorem ins1_and {y : Ins} {s : St} {R R' : St → Prop} (h : ins1 C y s R) (h' : ins1 C y s R') : ins1 C y s fun s => R s ∧ R' s := by
  rcases ins1_cases h with ⟨h1, h2⟩ | ⟨h1, h2⟩
  · exact (h2 s _ fun _ _ => rfl).2 (evI_and y.o h1 ((h2 s R' fun _ _ => rfl).1 h'))
  · exact (h2 s _ fun _ _ => rfl).2 ⟨h1, (h2 s R' fun _ _ => rfl).1 h'⟩

theorem ins1_all {y : Ins} {s : St} {α : Type} {R : α → St → Prop} : ∀ (l : List α), l ≠ [] → (∀ x ∈ l, ins1 C y s (R x)) → ins1 C y s fun s => ∀ x ∈ l, R x s := by
  intro l
  induction l with
  | nil => intro h; exact absurd rfl h
  | cons a l ih =>
    intro _ h
    cases l with
    | nil => exact ins1_mono (h a (by simp)) (fun s hs x hx => by simp at hx; subst hx; exact hs)
    | cons b l =>
      refine ins1_mono (ins1_and (h a (by simp)) (ih (by simp) fun x hx => h x (by simp [hx]))) ?_
      rintro s ⟨h1, h2⟩ x hx
      rcases List.mem_cons.1 hx with rfl | hx
      · exact h1
      · exact h2 x hx

theorem take_sound {Q : St → Prop} {is : List Ins} {y : Ins} {i : Nat} (hy : is[i]? = some y) : ∀ (l l' : List Nat) (s : St), takeI is y i l = some l' → evR C Q (pickI is l) s → ins1 C y s (evR C Q (pickI is l')) := by
  intro l
  induction l with
  | nil => intro l' s h; simp [takeI] at h
  | cons j r ih =>
    intro l' s h hev
    simp only [takeI] at h
    split at h
    · rename_i hj
      subst hj
      simp only [Option.some.injEq] at h
      subst h
      have : pickI is (j :: r) = y :: pickI is r := by simp [pickI, hy]
      rw [this] at hev
      exact hev
    · split at h
      · rename_i r' x h1 h2
        split at h
        · rename_i hf
          simp only [Option.some.injEq] at h
          subst h
          have e1 : pickI is (j :: r) = x :: pickI is r := by simp [pickI, h2]
          have e2 : pickI is (j :: r') = x :: pickI is r' := by simp [pickI, h2]
          rw [e1] at hev
          rw [e2]
          exact swap hf (ins1_mono (R := evR C Q (pickI is r)) hev fun s1 h => ih r' s1 h1 h)
        · simp at h
      · simp at h

/-- Whatever order is taken. -/
def evAny (C : Tab) (Q : St → Prop) (ops : Array Oper) (is : List Ins) : Nat → Array Bool → St → Prop
  | 0, listed, s => Region.ready .any ops listed = [] ∧ Q s
  | n + 1, listed, s => (Region.ready .any ops listed = [] → Q s) ∧ ∀ i ∈ Region.ready .any ops listed, ∃ y, is[i]? = some y ∧ ins1 C y s (evAny C Q ops is n (listed.setIfInBounds i true))

theorem take_ok {is : List Ins} {y : Ins} {i : Nat} {post : List Nat} : ∀ pre : List Nat, (∀ x ∈ pre, x ≠ i ∧ ∃ a, is[x]? = some a ∧ freeI a y = true) → takeI is y i (pre ++ i :: post) = some (pre ++ post) := by
  intro pre
  induction pre with
  | nil => intro _; simp [takeI]
  | cons x pre ih =>
    intro h
    obtain ⟨h1, a, h2, h3⟩ := h x (by simp)
    simp only [List.cons_append, takeI, if_neg h1, ih fun z hz => h z (by simp [hz]), h2, h3, if_true]

theorem allR_mem {Q : St → Prop} {s : St} : ∀ (l : List (List Ins)), allR C Q l s → ∀ is ∈ l, evR C Q is s := by
  intro l
  induction l with
  | nil => intro _ is h; simp at h
  | cons a l ih =>
    rintro ⟨h1, h2⟩ is h
    rcases List.mem_cons.1 h with rfl | h
    · exact h1
    · exact ih h2 is h

theorem ldA_still {m : List Blk} {g : Bool} {n : Nat} {v y : AV} (h : ldA [] g n v = some y) : ldA m g n v = some y := by
  cases v <;> simp [ldA, bnth] at h ⊢
  exact h

theorem lenA_still {m : List Blk} {v y : AV} (h : lenA [] v = some y) : lenA m v = some y := by
  cases v <;> simp [lenA, bnth] at h ⊢ <;> exact h

theorem iaA_still {m : List Blk} {k : Kd} {v i y : AV} (h : iaA k [] v i = some y) : iaA k m v i = some y := by
  cases i <;> simp only [iaA] at h ⊢ <;> try (simp at h; done)
  cases v <;> simp only [bnth] at h ⊢ <;> first
    | exact h
    | (simp at h; done)

theorem slcA_still {m : List Blk} {k : Kd} {v y : AV} {a b : Option AV} (h : slcA k [] v a b = some y) : slcA k m v a b = some y := by
  cases v <;> simp only [slcA, bnth] at h ⊢ <;> first
    | exact h
    | (simp at h; done)

theorem still_evI {i : AI} {s : St} {K : AV → List Blk → Prop} (h : evI C i.still s K) : evI C i s K := by
  have gen : ∀ {v0 v1 : Option AV}, (∀ y, v0 = some y → v1 = some y) → (match (match v0 with | some y => some (y, s.m) | none => none : Option (AV × List Blk)) with | some (v, m) => K v m | none => False) → (match (match v1 with | some y => some (y, s.m) | none => none : Option (AV × List Blk)) with | some (v, m) => K v m | none => False) := by
    intro v0 v1 h1 h2
    cases v0 with
    | none => exact h2.elim
    | some y => rw [h1 y rfl]; exact h2
  cases i
  case ld g n x => exact gen (fun y hy => ldA_still hy) h
  case ia k x j => exact gen (fun y hy => iaA_still hy) h
  case len x => exact gen (fun y hy => lenA_still hy) h
  case slc k x a b => exact gen (fun y hy => slcA_still hy) h
  all_goals exact h

/-- One of them is taken first. -/
theorem front {y : Ins} {post : List Ins} {Q : St → Prop} : ∀ (pre : List Ins) (s : St), (∀ x ∈ pre, freeI x y = true) → evR C Q (pre ++ y :: post) s → ins1 C y s (evR C Q (pre ++ post)) := by
  intro pre
  induction pre with
  | nil => intro s _ h; exact h
  | cons x pre ih =>
    intro s hf h
    have h1 : ins1 C x s (fun s1 => ins1 C y s1 (evR C Q (pre ++ post))) := ins1_mono (R := evR C Q (pre ++ y :: post)) h (fun s1 h => ih s1 (fun z hz => hf z (by simp [hz])) h)
    exact swap (hf x (by simp)) h1

end

end Go.Proofs.Ytnghlmogcbmlfaa
