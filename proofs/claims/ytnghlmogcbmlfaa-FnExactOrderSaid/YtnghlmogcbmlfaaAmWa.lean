/- Instructions whose order is open: in whichever order they are taken, what holds is the same. -/
import Derived.Test.YtnghlmogcbmlfaaAmWm
namespace Go.Proofs.Ytnghlmogcbmlfaa
set_option linter.unusedVariables false
set_option linter.unusedSimpArgs false

section
variable {C : Tab} {s s' : St} {K K' : AV → List Blk → Prop}

theorem map_get {xs : List O} (h : ∀ x ∈ xs, O.get s x = O.get s' x) : xs.map (O.get s) = xs.map (O.get s') := List.map_congr_left h

theorem optmap_get {x : Option O} (h : ∀ y ∈ x.toList, O.get s y = O.get s' y) : x.map (O.get s) = x.map (O.get s') := by
  cases x with
  | none => rfl
  | some y => simp [h y (by simp)]

theorem evI_congr {i : AI} (hm : s.m = s'.m) (ho : ∀ x ∈ i.opsL, O.get s x = O.get s' x) (h : evI C i s K) : evI C i s' K := by
  cases i <;> simp only [AI.opsL, List.mem_cons, List.not_mem_nil, or_false, forall_eq_or_imp, forall_eq] at ho
  case build z ps =>
    have e : (ps.map fun p => (p.1, p.2.1, O.get s p.2.2)) = ps.map fun p => (p.1, p.2.1, O.get s' p.2.2) := by
      refine List.map_congr_left fun p hp => ?_
      rw [ho p.2.2 (List.mem_map.2 ⟨p, hp, rfl⟩)]
    simp only [evI, stepI, hm, e] at h ⊢
    exact h
  case slit k xs => simp only [evI, stepI, hm, map_get ho] at h ⊢; exact h
  case call f xs => simp only [evI, stepI, hm, map_get ho] at h ⊢; exact h
  case callp f xs => simp only [evI, stepI, hm, map_get ho] at h ⊢; exact h
  case callr f xs => exact h
  case mf f xs => simp only [evI, stepI, hm, map_get ho] at h ⊢; exact h
  case callv x xs => simp only [evI, stepI, hm, ho.1, map_get ho.2] at h ⊢; exact h
  case mx x xs => simp only [evI, stepI, hm, ho.1, map_get ho.2] at h ⊢; exact h
  case mn x xs => simp only [evI, stepI, hm, ho.1, map_get ho.2] at h ⊢; exact h
  case slc k x a b =>
    obtain ⟨h1, h2⟩ := ho
    have ha := optmap_get (x := a) (fun y hy => h2 y (List.mem_append.2 (.inl hy)))
    have hb := optmap_get (x := b) (fun y hy => h2 y (List.mem_append.2 (.inr hy)))
    simp only [evI, stepI, hm, h1, ha, hb] at h ⊢
    exact h
  case slc0 k x a b =>
    obtain ⟨h1, h2⟩ := ho
    have ha := optmap_get (x := a) (fun y hy => h2 y (List.mem_append.2 (.inl hy)))
    have hb := optmap_get (x := b) (fun y hy => h2 y (List.mem_append.2 (.inr hy)))
    simp only [evI, stepI, hm, h1, ha, hb] at h ⊢
    exact h
  case sls x a b =>
    obtain ⟨h1, h2⟩ := ho
    have ha := optmap_get (x := a) (fun y hy => h2 y (List.mem_append.2 (.inl hy)))
    have hb := optmap_get (x := b) (fun y hy => h2 y (List.mem_append.2 (.inr hy)))
    simp only [evI, stepI, hm, h1, ha, hb] at h ⊢
    exact h
  all_goals first
    | (simp only [evI, stepI, hm, ho] at h ⊢; exact h)
    | (simp only [evI, stepI, hm] at h ⊢; exact h)
    | exact h

/-- An instruction that turns no memory. -/
theorem quiet {i : AI} (hq : cls i ≤ 2) (h : evI C i s K) : ∃ v, K v s.m ∧ ∀ (s' : St) (K' : AV → List Blk → Prop), (∀ x ∈ i.opsL, O.get s x = O.get s' x) → (Mono s.m s'.m ∨ cls i = 0) → K' v s'.m → evI C i s' K' := by
  have free : ∀ v, (∀ (m : List Blk) (K' : AV → List Blk → Prop), K' v m → evI C i ⟨s.t, m⟩ K') → K v s.m → ∃ v, K v s.m ∧ ∀ (s' : St) (K' : AV → List Blk → Prop), (∀ x ∈ i.opsL, O.get s x = O.get s' x) → (Mono s.m s'.m ∨ cls i = 0) → K' v s'.m → evI C i s' K' := by
    intro v hv hk
    refine ⟨v, hk, fun s' K' ho _ hk' => ?_⟩
    refine evI_congr (s := ⟨s.t, s'.m⟩) rfl (fun x hx => ?_) (hv s'.m K' hk')
    rw [← ho x hx]
    cases x <;> rfl
  have gt : ∀ (x : O) (m : List Blk), O.get ⟨s.t, m⟩ x = O.get s x := fun x m => by cases x <;> rfl
  have gtl : ∀ (xs : List O) (m : List Blk), xs.map (O.get ⟨s.t, m⟩) = xs.map (O.get s) := fun xs m => map_get fun x _ => gt x m
  have gto : ∀ (x : Option O) (m : List Blk), x.map (O.get ⟨s.t, m⟩) = x.map (O.get s) := fun x m => optmap_get fun y _ => gt y m
  have gen : ∀ v0 : Option AV, (∀ (m : List Blk) (K' : AV → List Blk → Prop), (match v0 with | some v => K' v m | none => False) → evI C i ⟨s.t, m⟩ K') → (match v0 with | some v => K v s.m | none => False) → ∃ v, K v s.m ∧ ∀ (s' : St) (K' : AV → List Blk → Prop), (∀ x ∈ i.opsL, O.get s x = O.get s' x) → (Mono s.m s'.m ∨ cls i = 0) → K' v s'.m → evI C i s' K' := by
    intro v0 h1 h2
    cases v0 with
    | none => exact h2.elim
    | some v => exact free v (fun m K' hk => h1 m K' hk) h2
  have genm : ∀ f : List Blk → Option AV, (∀ m' v, Mono s.m m' → f s.m = some v → f m' = some v) → (∀ (m : List Blk) (K' : AV → List Blk → Prop), (match f m with | some v => K' v m | none => False) → evI C i ⟨s.t, m⟩ K') → (match f s.m with | some v => K v s.m | none => False) → cls i ≠ 0 → ∃ v, K v s.m ∧ ∀ (s' : St) (K' : AV → List Blk → Prop), (∀ x ∈ i.opsL, O.get s x = O.get s' x) → (Mono s.m s'.m ∨ cls i = 0) → K' v s'.m → evI C i s' K' := by
    intro f hmono h1 h2 hc
    cases e : f s.m with
    | none => simp only [e] at h2
    | some v =>
      simp only [e] at h2
      refine ⟨v, h2, fun s' K' ho hm hk' => ?_⟩
      refine evI_congr (s := ⟨s.t, s'.m⟩) rfl (fun x hx => ?_) (h1 s'.m K' (by rw [hmono s'.m v (hm.resolve_right hc) e]; exact hk'))
      rw [← ho x hx]
      cases x <;> rfl
  have v1 : ∀ {v0 : Option AV} {m : List Blk} {K : AV → List Blk → Prop}, (match (match v0 with | some y => some (y, m) | none => none : Option (AV × List Blk)) with | some (v, m) => K v m | none => False) ↔ (match v0 with | some v => K v m | none => False) := by
    intro v0 m K
    cases v0 <;> exact Iff.rfl
  cases i <;> try (simp [cls] at hq; done)
  case mv x => exact free (x.get s) (fun m K' hk => by simp only [evI, stepI, gt]; exact hk) h
  case pick c a b =>
    simp only [evI] at h
    cases hv : c.get s <;> simp only [hv] at h
    rename_i t
    cases t with
    | true => exact free (a.get s) (fun m K' hk => by simp only [evI, gt, hv]; exact hk) h
    | false => exact free (b.get s) (fun m K' hk => by simp only [evI, gt, hv]; exact hk) h
  case build z ps =>
    have e : ∀ m : List Blk, (ps.map fun p => (p.1, p.2.1, O.get ⟨s.t, m⟩ p.2.2)) = ps.map fun p => (p.1, p.2.1, O.get s p.2.2) := fun m => List.map_congr_left fun p hp => by rw [gt]
    refine gen ((fillA z (ps.map fun p => (p.1, p.2.1, O.get s p.2.2))).map .agg) (fun m K' hk => ?_) ?_
    · simp only [evI, stepI, e]
      cases hf : fillA z (ps.map fun p => (p.1, p.2.1, O.get s p.2.2)) with
      | none => simp [hf] at hk
      | some cs => simpa [hf] using hk
    · simp only [evI, stepI] at h
      cases hf : fillA z (ps.map fun p => (p.1, p.2.1, O.get s p.2.2)) with
      | none => simp [hf] at h
      | some cs => simpa [hf] using h
  case ld g n x => exact genm (fun m => ldA m g n (x.get s)) (fun m' v h e => ldA_mono h e) (fun m K' hk => by simp only [evI, stepI, gt]; exact v1.2 hk) (by simp only [evI, stepI] at h; exact v1.1 h) (by simp [cls])
  case ldb g n x => exact genm (fun m => ldbA m g n (x.get s)) (fun m' v h e => ldbA_mono h e) (fun m K' hk => by simp only [evI, stepI, gt]; exact v1.2 hk) (by simp only [evI, stepI] at h; exact v1.1 h) (by simp [cls])
  case len x => exact genm (fun m => lenA m (x.get s)) (fun m' v h e => lenA_mono h e) (fun m K' hk => by simp only [evI, stepI, gt]; exact v1.2 hk) (by simp only [evI, stepI] at h; exact v1.1 h) (by simp [cls])
  case ia k x j => exact genm (fun m => iaA k m (x.get s) (j.get s)) (fun m' v h e => iaA_mono h e) (fun m K' hk => by simp only [evI, stepI, gt]; exact v1.2 hk) (by simp only [evI, stepI] at h; exact v1.1 h) (by simp [cls])
  case slc k x a b => exact genm (fun m => slcA k m (x.get s) (a.map (O.get s)) (b.map (O.get s))) (fun m' v h e => slcA_mono h e) (fun m K' hk => by simp only [evI, stepI, gt, gto]; exact v1.2 hk) (by simp only [evI, stepI] at h; exact v1.1 h) (by simp [cls])
  case ld0 g n x => exact gen (ldA [] g n (x.get s)) (fun m K' hk => by simp only [evI, stepI, gt]; exact v1.2 hk) (by simp only [evI, stepI] at h; exact v1.1 h)
  case len0 x => exact gen (lenA [] (x.get s)) (fun m K' hk => by simp only [evI, stepI, gt]; exact v1.2 hk) (by simp only [evI, stepI] at h; exact v1.1 h)
  case ia0 k x j => exact gen (iaA k [] (x.get s) (j.get s)) (fun m K' hk => by simp only [evI, stepI, gt]; exact v1.2 hk) (by simp only [evI, stepI] at h; exact v1.1 h)
  case slc0 k x a b => exact gen (slcA k [] (x.get s) (a.map (O.get s)) (b.map (O.get s))) (fun m K' hk => by simp only [evI, stepI, gt, gto]; exact v1.2 hk) (by simp only [evI, stepI] at h; exact v1.1 h)
  case bin op x y => exact gen (binA op (x.get s) (y.get s)) (fun m K' hk => by simp only [evI, stepI, gt]; exact v1.2 hk) (by simp only [evI, stepI] at h; exact v1.1 h)
  case sls x a b => exact gen (slsA (x.get s) (a.map (O.get s)) (b.map (O.get s))) (fun m K' hk => by simp only [evI, stepI, gt, gto]; exact v1.2 hk) (by simp only [evI, stepI] at h; exact v1.1 h)
  case mx x xs => exact gen (maxA (x.get s) (xs.map (O.get s))) (fun m K' hk => by simp only [evI, stepI, gt, gtl]; exact v1.2 hk) (by simp only [evI, stepI] at h; exact v1.1 h)
  case mn x xs => exact gen (minA (x.get s) (xs.map (O.get s))) (fun m K' hk => by simp only [evI, stepI, gt, gtl]; exact v1.2 hk) (by simp only [evI, stepI] at h; exact v1.1 h)
  case mf f xs => exact free (.fn f (xs.map (O.get s))) (fun m K' hk => by simp only [evI, stepI, gtl]; exact hk) h
  case callp f xs =>
    simp only [evI, stepI] at h
    cases hc : C f with
    | none => simp only [hc] at h
    | some c =>
      simp only [hc] at h
      exact genm (fun m => callP c (xs.map (O.get s)) m) (fun m' v h e => callP_mono h e) (fun m K' hk => by simp only [evI, stepI, gtl, hc]; exact v1.2 hk) (v1.1 h) (by simp [cls])
  case b2s x =>
    simp only [evI, stepI] at h
    cases hv : asList .u8 s.m (x.get s) with
    | none => simp only [hv] at h
    | some l =>
      simp only [hv] at h
      exact genm (fun m => (asList .u8 m (x.get s)).map fun l => AV.str ⟨l.toArray⟩) (fun m' v h e => by
        simp only [hv, Option.map_some] at e
        simp only [asList_mono h hv, Option.map_some]
        exact e) (fun m K' hk => by
        simp only [evI, stepI, gt]
        cases ha : asList .u8 m (x.get s) with
        | none => simp [ha] at hk
        | some l => simpa [ha] using hk) (by simpa [hv] using h) (by simp [cls])
  case fd g off n x =>
    simp only [evI, stepI] at h
    cases hv : x.get s <;> simp only [hv] at h
    rename_i cs
    exact gen (mkV g n (cut off n cs)) (fun m K' hk => by simp only [evI, stepI, gt, hv]; exact v1.2 hk) (v1.1 h)
  case ex j x =>
    simp only [evI, stepI] at h
    cases hv : x.get s <;> simp only [hv] at h
    rename_i vs
    cases hj : vs[j]? with
    | none => simp only [hj] at h
    | some y =>
      simp only [hj] at h
      exact free y (fun m K' hk => by simp only [evI, stepI, gt, hv, hj]; exact hk) h
  case eqa neg ts x y =>
    simp only [evI, stepI] at h
    cases hv : x.get s <;> simp only [hv] at h
    cases hu : y.get s <;> simp only [hu] at h
    rename_i a b
    cases he : eqL ts a b with
    | none => simp only [he] at h
    | some r =>
      simp only [he] at h
      exact free _ (fun m K' hk => by simp only [evI, stepI, gt, hv, hu, he]; exact hk) h
  case ix g n len x j =>
    simp only [evI, stepI] at h
    cases hv : x.get s <;> simp only [hv] at h
    cases hu : j.get s <;> simp only [hu] at h
    rename_i cs k I
    by_cases hc : 0 ≤ I ∧ I < len
    · rw [if_pos hc] at h
      exact gen (mkV g n (cut (I.toNat * n) n cs)) (fun m K' hk => by simp only [evI, stepI, gt, hv, hu, if_pos hc]; exact v1.2 hk) (v1.1 h)
    · rw [if_neg hc] at h
      exact h.elim
  case ixs x j =>
    simp only [evI, stepI] at h
    cases hv : x.get s <;> simp only [hv] at h
    cases hu : j.get s <;> simp only [hu] at h
    rename_i b k I
    by_cases hc : 0 ≤ I
    · rw [if_pos hc] at h
      cases hb : (bytesOf b)[I.toNat]? with
      | none => simp only [hb] at h
      | some c =>
        simp only [hb] at h
        exact free _ (fun m K' hk => by simp only [evI, stepI, gt, hv, hu, if_pos hc, hb]; exact hk) h
    · rw [if_neg hc] at h
      exact h.elim
  case iaa n len x j =>
    simp only [evI, stepI] at h
    cases hv : x.get s <;> cases hu : j.get s <;> simp only [hv, hu] at h
    all_goals
      rename_i I
      by_cases hc : 0 ≤ I ∧ I < len
      · rw [if_pos hc] at h
        exact free _ (fun m K' hk => by simp only [evI, stepI, gt, hv, hu, if_pos hc]; exact hk) h
      · rw [if_neg hc] at h
        exact h.elim
  case eqb neg x y =>
    simp only [evI, stepI] at h
    cases hv : x.get s <;> simp only [hv] at h
    cases hu : y.get s <;> simp only [hu] at h
    exact free _ (fun m K' hk => by simp only [evI, stepI, gt, hv, hu]; exact hk) h
  case un op x =>
    simp only [evI, stepI] at h
    cases op <;> cases hv : x.get s <;> simp only [hv] at h
    all_goals exact free _ (fun m K' hk => by simp only [evI, stepI, gt, hv]; exact hk) h
  all_goals
    simp only [evI, stepI] at h
    rename_i x
    cases hv : x.get s <;> simp only [hv] at h
    all_goals exact free _ (fun m K' hk => by simp only [evI, stepI, gt, hv]; exact hk) h

end

end Go.Proofs.Ytnghlmogcbmlfaa
