/- Tidying keeps what the small machine's state stands for. -/
import Derived.Test.YtnghlmogcbmlfaaAmWb
namespace Go.Proofs.Ytnghlmogcbmlfaa
set_option linter.unusedVariables false
set_option linter.unusedSimpArgs false
set_option linter.unnecessarySimpa false

theorem nth_dropL (cs : List AV) (j : Nat) : nth (dropL cs) j = dropV (nth cs j) := by
  induction cs generalizing j with
  | nil => simp [dropL, nth, dropV]
  | cons v r ih => cases j with
    | zero => simp [dropL, nth]
    | succ j => simpa [dropL, nth] using ih j

theorem dropL_length (cs : List AV) : (dropL cs).length = cs.length := by
  induction cs with
  | nil => rfl
  | cons v r ih => simp [dropL, ih]

theorem RepV.drop {w : World} {L L' : List LB} {Z Z' : Nat → Prop} {v : AV} {V : Value} (h : RepV w L Z v V) (hz : ∀ b, Z' b → Z b) : RepV w L' Z' (dropV v) V := by
  have clean : ∀ {v : AV} {V : Value}, RepV w L Z v V → cleanB v = true → RepV w L' Z' v V := fun h hc => (h.strip hc hz).weaken (fun _ h => h)
  induction h with
  | undef => exact .undef
  | junk V h => exact .junk V h
  | bool b => exact .bool b
  | int k n h => exact .int k n h
  | str s h => exact .str s h
  | nil a => exact .nil a
  | err0 => exact .err0
  | err1 t x => exact .err1 t x
  | sl k l a cap b off C hcap hlen ha hC hr ih => exact clean (.sl k l a cap b off C hcap hlen ha hC hr) rfl
  | agg cs Cs hs hr ih =>
    simp only [dropV]
    exact .agg _ Cs (by rw [dropL_length, hs]) (fun j hj => by rw [nth_dropL]; exact ih j (by rwa [dropL_length] at hj))
  | tup cs Cs hs hr ih =>
    simp only [dropV]
    exact .tup _ Cs (by rw [dropL_length, hs]) (fun j hj => by rw [nth_dropL]; exact ih j (by rwa [dropL_length] at hj))
  | fn f cs Cs hs hr ih =>
    simp only [dropV]
    exact .fn f _ Cs (by rw [dropL_length, hs]) (fun j hj => by rw [nth_dropL]; exact ih j (by rwa [dropL_length] at hj))
  | ip cs off b o C hz' hC hr hb ih =>
    simp only [dropV]
    exact .ip _ off b o C (fun h => hz' (hz b h)) (fun j hj => hC j (by rwa [dropL_length] at hj)) (fun j hj => by rw [nth_dropL]; exact ih j (by rwa [dropL_length] at hj)) hb
  | ptr id off b h => exact .junk _ rfl
  | rp id v i off b n h => exact .junk _ rfl
  | ms id v lo len cap b n h hcap hlo => exact .junk _ rfl
  | ms0 id v n a h => exact .junk _ rfl
  | msE id v lo b off n h hlo => exact .junk _ rfl

/-- A place, its row's turns told anew. -/
def renL (e j : Nat) : LB → LB
  | .row b v n => .row b (verN e j v) n
  | x => x

def canL (e : Nat) (L : List LB) : List Nat → Nat → List LB
  | [], _ => []
  | id :: r, j => renL e j (L[id]?.getD .dead) :: canL e L r (j + 1)

theorem canL_length {e : Nat} {L : List LB} : ∀ (ids : List Nat) (j : Nat), (canL e L ids j).length = ids.length := by
  intro ids
  induction ids with
  | nil => intro j; rfl
  | cons i r ih => intro j; simp [canL, ih]

theorem canL_get {e : Nat} {L : List LB} : ∀ (ids : List Nat) (j i : Nat), (canL e L ids j)[i]? = (ids[i]?).map fun id => renL e (j + i) (L[id]?.getD .dead) := by
  intro ids
  induction ids with
  | nil => intro j i; simp [canL]
  | cons x r ih =>
    intro j i
    cases i with
    | zero => simp [canL]
    | succ i =>
      simp only [canL, List.getElem?_cons_succ]
      rw [ih]
      congr 2
      funext id
      rw [show j + 1 + i = j + (i + 1) by omega]

theorem renL_owns {e j b : Nat} {x : LB} : (renL e j x).owns b ↔ x.owns b := by
  cases x with
  | dead => rfl
  | cell c => rfl
  | row c v n => cases c <;> rfl

theorem posOf_some : ∀ {ids : List Nat} {i n j : Nat}, posOf ids i n = some j → n ≤ j ∧ ids[j - n]? = some i := by
  intro ids
  induction ids with
  | nil => intro i n j h; simp [posOf] at h
  | cons x r ih =>
    intro i n j h
    simp only [posOf] at h
    cases he : eqN x i with
    | true =>
      simp only [he, Option.some.injEq] at h
      subst h
      obtain rfl := eqN_iff.1 he
      simp
    | false =>
      simp only [he] at h
      obtain ⟨h1, h2⟩ := ih h
      refine ⟨by omega, ?_⟩
      rw [show j - n = (j - (n + 1)) + 1 by omega]
      simpa using h2

section tidy
variable {w0 : World} {F0 X0 : Nat → Prop} {m : List Blk} {L : List LB} {w : World} {e : Nat} {ids : List Nat}

theorem ren_sound (hs : SimM w0 F0 X0 m L w) {Z' : Nat → Prop} (hz : ∀ b, Z' b → ZZ X0 L b) :
    ∀ (d : Nat) (vs as : List AV) (V : Nat → Value), ren e m ids d vs = some as → (∀ j, j < vs.length → RepV w L (ZZ X0 L) (nth vs j) (V j)) → as.length = vs.length ∧ ∀ j, j < as.length → RepV w (canL e L ids 0) Z' (nth as j) (V j) := by
  intro d
  induction d with
  | zero => intro vs as V h; simp [ren] at h
  | succ d ih =>
    intro vs as V h hr
    cases vs with
    | nil =>
      simp only [ren, Option.some.injEq] at h
      subst h
      exact ⟨rfl, fun j hj => by simp at hj⟩
    | cons v r =>
      simp only [ren] at h
      cases ht : ren e m ids d r with
      | none => simp [ht] at h
      | some r' =>
        simp only [ht] at h
        obtain ⟨i1, i2⟩ := ih r r' (fun j => V (j + 1)) ht (fun j hj => hr (j + 1) (by simpa using hj))
        have hv : RepV w L (ZZ X0 L) v (V 0) := hr 0 (by simp)
        have fin : ∀ u : AV, RepV w (canL e L ids 0) Z' u (V 0) → as = u :: r' → as.length = (v :: r).length ∧ ∀ j, j < as.length → RepV w (canL e L ids 0) Z' (nth as j) (V j) := by
          rintro u hu rfl
          refine ⟨by simp [i1], fun j hj => ?_⟩
          cases j with
          | zero => exact hu
          | succ j => exact i2 j (by simpa using hj)
        have clean : cleanB v = true → RepV w (canL e L ids 0) Z' v (V 0) := fun hc => (hv.strip hc hz).weaken (fun _ h => h)
        have at' : ∀ {id j : Nat} {x : LB}, posOf ids id 0 = some j → L[id]? = some x → (canL e L ids 0)[j]? = some (renL e j x) := by
          intro id j x hp hx
          obtain ⟨_, h2⟩ := posOf_some hp
          rw [canL_get]
          simp only [Nat.sub_zero] at h2
          simp [h2, hx]
        cases v <;> simp only [Option.some.injEq] at h <;> try (simp at h; done)
        case undef => exact fin _ (clean rfl) h.symm
        case junk => exact fin _ (clean rfl) h.symm
        case bool b => exact fin _ (clean rfl) h.symm
        case int k n => exact fin _ (clean rfl) h.symm
        case str s => exact fin _ (clean rfl) h.symm
        case nil => exact fin _ (clean rfl) h.symm
        case err b => exact fin _ (clean rfl) h.symm
        case sl k l => exact fin _ (clean rfl) h.symm
        case agg cs =>
          cases hc : ren e m ids d cs with
          | none => simp [hc] at h
          | some cs' =>
            simp only [hc, Option.some.injEq] at h
            obtain ⟨Cs, e, hsz, hrr⟩ := hv.agg_inv
            obtain ⟨j1, j2⟩ := ih cs cs' (fun j => Cs.getD j Go.undef) hc hrr
            exact fin _ (by rw [e]; exact .agg cs' Cs (by omega) j2) h.symm
        case tup cs =>
          cases hc : ren e m ids d cs with
          | none => simp [hc] at h
          | some cs' =>
            simp only [hc, Option.some.injEq] at h
            obtain ⟨Cs, e, hsz, hrr⟩ := hv.tup_inv
            obtain ⟨j1, j2⟩ := ih cs cs' (fun j => Cs.getD j Go.undef) hc hrr
            exact fin _ (by rw [e]; exact .tup cs' Cs (by omega) j2) h.symm
        case fn f cs =>
          cases hc : ren e m ids d cs with
          | none => simp [hc] at h
          | some cs' =>
            simp only [hc, Option.some.injEq] at h
            obtain ⟨Cs, e, hsz, hrr⟩ := hv.fn_inv
            obtain ⟨j1, j2⟩ := ih cs cs' (fun j => Cs.getD j Go.undef) hc hrr
            exact fin _ (by rw [e]; exact .fn f cs' Cs (by omega) j2) h.symm
        case ip cs off =>
          cases hc : ren e m ids d cs with
          | none => simp [hc] at h
          | some cs' =>
            simp only [hc, Option.some.injEq] at h
            obtain ⟨b, o, C, e, hzb, hbl, hC, hrr⟩ := hv.ip_inv
            obtain ⟨j1, j2⟩ := ih cs cs' C hc hrr
            exact fin _ (by rw [e]; exact .ip cs' off b o C (fun h => hzb (hz b h)) (fun j hj => hC j (by omega)) j2 hbl) h.symm
        case ptr id off =>
          obtain ⟨b, ex, hL⟩ := hv.ptr_inv
          cases hp : posOf ids id 0 with
          | none =>
            simp only [hp, Option.some.injEq] at h
            exact fin _ (by rw [ex]; exact .junk _ rfl) h.symm
          | some j =>
            simp only [hp, Option.some.injEq] at h
            refine fin _ ?_ h.symm
            rw [ex]
            exact .ptr j off b (hL.imp (fun hL => by simpa [renL] using at' hp hL) (fun hL => by simpa [renL] using at' hp hL))
        case rp id v0 i off =>
          obtain ⟨b, n, ex, hL⟩ := hv.rp_inv
          have hj : RepV w (canL e L ids 0) Z' .junk (V 0) := by rw [ex]; exact .junk _ rfl
          cases hm : bnth m id with
          | dead => simp only [hm, Option.some.injEq] at h; exact fin _ hj h.symm
          | cells cs => simp only [hm, Option.some.injEq] at h; exact fin _ hj h.symm
          | row v' k' l' =>
            simp only [hm] at h
            cases he : eqN v0 v' with
            | false => simp only [he, Option.some.injEq] at h; exact fin _ hj h.symm
            | true =>
              obtain rfl := eqN_iff.1 he
              simp only [he] at h
              cases hp : posOf ids id 0 with
              | none => simp only [hp, Option.some.injEq] at h; exact fin _ hj h.symm
              | some j =>
                simp only [hp, Option.some.injEq] at h
                refine fin _ ?_ h.symm
                rw [ex]
                rcases hL with hL | ⟨z, hL, hg⟩
                · exact .rp j _ i off b n (.inl (at' hp hL))
                · exact absurd rfl (blk_gone hs hL hg hm)
        case ms id v0 lo len =>
          have hj : RepV w (canL e L ids 0) Z' .junk (V 0) := by
            rcases hv.ms_inv with ⟨b, n', cap, ex, _⟩ | ⟨n', A, _, _, ex, _⟩ | ⟨b, off, n', _, ex, _⟩ <;> rw [ex] <;> exact .junk _ rfl
          cases hm : bnth m id with
          | dead => simp only [hm, Option.some.injEq] at h; exact fin _ hj h.symm
          | cells cs => simp only [hm, Option.some.injEq] at h; exact fin _ hj h.symm
          | row v' k' l' =>
            simp only [hm] at h
            cases he : eqN v0 v' with
            | false => simp only [he, Option.some.injEq] at h; exact fin _ hj h.symm
            | true =>
              obtain rfl := eqN_iff.1 he
              simp only [he] at h
              cases hp : posOf ids id 0 with
              | none => simp only [hp, Option.some.injEq] at h; exact fin _ hj h.symm
              | some j =>
                simp only [hp, Option.some.injEq] at h
                refine fin _ ?_ h.symm
                rcases hv.ms_inv with ⟨b, n', cap, ex, hcap, hL⟩ | ⟨n', A, rfl, rfl, ex, hL⟩ | ⟨b, off, n', ⟨rfl, hlo⟩, ex, hL⟩
                · rcases hL with ⟨hL, hsz⟩ | ⟨z, hL, hg⟩
                  · rw [ex]
                    exact .ms j _ lo len cap b n' (.inl ⟨at' hp hL, hsz⟩) ⟨hcap.1, hcap.2.1⟩ hcap.2.2
                  · exact absurd rfl (blk_gone hs hL hg hm)
                · rcases hL with hL | ⟨z, hL, hg⟩
                  · rw [ex]
                    exact .ms0 j _ n' A (.inl (at' hp hL))
                  · exact absurd rfl (blk_gone hs hL hg hm)
                · rcases hL with hL | ⟨z, hL, hg⟩
                  · rw [ex]
                    exact .msE j _ lo b off n' (.inl (at' hp hL)) hlo
                  · exact absurd rfl (blk_gone hs hL hg hm)

theorem canM_get : ∀ (l : List Nat) (j : Nat) (m' : List Blk), canM e m ids l j = some m' → m'.length = l.length ∧ ∀ (i id : Nat), l[i]? = some id → match bnth m id with
      | .dead => bnth m' i = .dead
      | .cells cs => ∃ cs', ren e m ids 64 cs = some cs' ∧ bnth m' i = .cells cs'
      | .row v k x => bnth m' i = .row (verN e (j + i) v) k x := by
  intro l
  induction l with
  | nil =>
    intro j m' h
    simp only [canM, Option.some.injEq] at h
    subst h
    exact ⟨rfl, fun i id h => by simp at h⟩
  | cons a l ih =>
    intro j m' h
    simp only [canM] at h
    cases hr : canM e m ids l (j + 1) with
    | none => simp [hr] at h
    | some bs =>
      simp only [hr] at h
      obtain ⟨h1, h2⟩ := ih (j + 1) bs hr
      have tl : ∀ (β : Blk) (i id : Nat), m' = β :: bs → l[i]? = some id → match bnth m id with
          | .dead => bnth m' (i + 1) = .dead
          | .cells cs => ∃ cs', ren e m ids 64 cs = some cs' ∧ bnth m' (i + 1) = .cells cs'
          | .row v k x => bnth m' (i + 1) = .row (verN e (j + (i + 1)) v) k x := by
        rintro β i id rfl hi
        have := h2 i id hi
        rw [show j + 1 + i = j + (i + 1) by omega] at this
        exact this
      cases hm : bnth m a with
      | dead =>
        simp only [hm, Option.some.injEq] at h
        refine ⟨by rw [← h]; simp [h1], fun i id hi => ?_⟩
        cases i with
        | zero =>
          simp only [List.getElem?_cons_zero, Option.some.injEq] at hi
          subst hi
          simp only [hm]
          rw [← h]
          rfl
        | succ i => exact tl _ i id h.symm (by simpa using hi)
      | cells cs =>
        simp only [hm] at h
        cases hc : ren e m ids 64 cs with
        | none => simp [hc] at h
        | some cs' =>
          simp only [hc, Option.some.injEq] at h
          refine ⟨by rw [← h]; simp [h1], fun i id hi => ?_⟩
          cases i with
          | zero =>
            simp only [List.getElem?_cons_zero, Option.some.injEq] at hi
            subst hi
            simp only [hm]
            exact ⟨cs', hc, by rw [← h]; rfl⟩
          | succ i => exact tl _ i id h.symm (by simpa using hi)
      | row v k x =>
        simp only [hm, Option.some.injEq] at h
        refine ⟨by rw [← h]; simp [h1], fun i id hi => ?_⟩
        cases i with
        | zero =>
          simp only [List.getElem?_cons_zero, Option.some.injEq] at hi
          subst hi
          simp only [hm]
          rw [← h]
          rfl
        | succ i => exact tl _ i id h.symm (by simpa using hi)

theorem canT_sound (hs : SimM w0 F0 X0 m L w) {Z' : Nat → Prop} (hz : ∀ b, Z' b → ZZ X0 L b) : ∀ (vs : List AV) (keep : List Nat) (n : Nat) (as : List AV) (V : Nat → Value), canT e m ids vs keep n = some as → (∀ j, j < vs.length → RepV w L (ZZ X0 L) (nth vs j) (V j)) →
    as.length = vs.length ∧ ∀ j, j < as.length → RepV w (canL e L ids 0) Z' (nth as j) (V j) := by
  intro vs
  induction vs with
  | nil =>
    intro keep n as V h hr
    simp only [canT, Option.some.injEq] at h
    subst h
    exact ⟨rfl, fun j hj => by simp at hj⟩
  | cons v vs ih =>
    intro keep n as V h hr
    have hv : RepV w L (ZZ X0 L) v (V 0) := hr 0 (by simp)
    have fin : ∀ (keep' : List Nat) (u : AV) (r : List AV), RepV w (canL e L ids 0) Z' u (V 0) → canT e m ids vs keep' (n + 1) = some r → as = u :: r → as.length = (v :: vs).length ∧ ∀ j, j < as.length → RepV w (canL e L ids 0) Z' (nth as j) (V j) := by
      rintro keep' u r hu ht rfl
      obtain ⟨i1, i2⟩ := ih keep' (n + 1) r (fun j => V (j + 1)) ht (fun j hj => hr (j + 1) (by simpa using hj))
      refine ⟨by simp [i1], fun j hj => ?_⟩
      cases j with
      | zero => exact hu
      | succ j => exact i2 j (by simpa using hj)
    have drop : ∀ (keep' : List Nat), (match canT e m ids vs keep' (n + 1) with | some r => some (dropV v :: r) | none => none) = some as → as.length = (v :: vs).length ∧ ∀ j, j < as.length → RepV w (canL e L ids 0) Z' (nth as j) (V j) := by
      intro keep' h
      cases ht : canT e m ids vs keep' (n + 1) with
      | none => simp [ht] at h
      | some r =>
        simp only [ht, Option.some.injEq] at h
        exact fin keep' _ r (hv.drop hz) ht h.symm
    cases keep with
    | nil => exact drop [] h
    | cons k keep =>
      simp only [canT] at h
      cases hk : eqN k n with
      | false =>
        simp only [hk] at h
        exact drop _ h
      | true =>
        simp only [hk] at h
        cases ht : canT e m ids vs keep (n + 1) with
        | none => simp [ht] at h
        | some r =>
          simp only [ht] at h
          cases hn : ren e m ids 64 [v] with
          | none => simp [hn] at h
          | some q =>
            obtain ⟨q1, q2⟩ := ren_sound hs hz 64 [v] q (fun _ => V 0) hn (fun j hj => by
              obtain rfl : j = 0 := by simpa using hj
              exact hv)
            cases q with
            | nil => simp at q1
            | cons u q =>
              cases q with
              | cons u' q => simp at q1
              | nil =>
                simp only [hn, Option.some.injEq] at h
                exact fin keep _ r (q2 0 (by simp)) ht h.symm

theorem addAll_spec : ∀ (is acc : List Nat), acc.Nodup → (addAll acc is).Nodup ∧ ∃ r, addAll acc is = acc ++ r := by
  intro is
  induction is with
  | nil => intro acc h; exact ⟨h, [], by simp [addAll]⟩
  | cons i is ih =>
    intro acc h
    simp only [addAll]
    cases hm : memN i acc with
    | true => exact ih acc h
    | false =>
      have hni := memN_iff hm
      obtain ⟨h1, r, h2⟩ := ih (acc ++ [i]) (by
        rw [List.nodup_append]
        exact ⟨h, by simp, fun a ha b hb => by simp at hb; subst hb; exact fun e => hni (e ▸ ha)⟩)
      exact ⟨h1, i :: r, by rw [h2]; simp⟩

theorem upTo_get : ∀ (n s i : Nat), i < n → (upTo s n)[i]? = some (s + i) := by
  intro n
  induction n with
  | zero => intro s i h; omega
  | succ n ih =>
    intro s i h
    cases i with
    | zero => rfl
    | succ i =>
      simp only [upTo, List.getElem?_cons_succ]
      rw [ih (s + 1) i (by omega)]
      congr 1
      omega

theorem upTo_mem : ∀ (n s x : Nat), x ∈ upTo s n → s ≤ x := by
  intro n
  induction n with
  | zero => intro s x h; simp [upTo] at h
  | succ n ih =>
    intro s x h
    simp only [upTo, List.mem_cons] at h
    rcases h with h | h
    · omega
    · have := ih (s + 1) x h
      omega

theorem upTo_nodup : ∀ (n s : Nat), (upTo s n).Nodup := by
  intro n
  induction n with
  | zero => intro s; exact .nil
  | succ n ih =>
    intro s
    simp only [upTo]
    exact List.nodup_cons.2 ⟨fun h => by have := upTo_mem n (s + 1) s h; omega, ih (s + 1)⟩

theorem ltN_iff : ∀ {n k : Nat}, ltN n k = true ↔ n < k := by
  intro n
  induction n with
  | zero => intro k; cases k <;> simp [ltN]
  | succ n ih => intro k; cases k <;> simp [ltN, ih]

theorem upTo_length : ∀ (n s : Nat), (upTo s n).length = n := by
  intro n
  induction n with
  | zero => intro s; rfl
  | succ n ih => intro s; simp [upTo, ih]

/-- A tidied state stands for what the state stood for. -/
theorem canon_sound {s s0 : St} {a : Act} {L0 : List LB} {keep : List Nat} (hs : Sim w0 F0 X0 s L a w) (he : Ext w0 L0 (ZZ X0 L0) w L (ZZ X0 L)) (hl : L0.length = e) (hc : canon e keep s = some s0) :
    ∃ L', Sim w0 F0 X0 s0 L' a w ∧ Ext w0 L0 (ZZ X0 L0) w L' (ZZ X0 L') := by
  unfold canon at hc
  cases hi : idsOf s.m 200 (firsts 0 e (keptOf s.t keep)) with
  | none => simp [hi] at hc
  | some is =>
    simp only [hi] at hc
    obtain ⟨hnd, r, hpre⟩ := addAll_spec is (upTo 0 e) (upTo_nodup e 0)
    generalize addAll (upTo 0 e) is = ids at hc hnd hpre
    cases ht : canT e s.m ids s.t keep 0 with
    | none => simp [ht] at hc
    | some t =>
      simp only [ht] at hc
      cases hm : canM e s.m ids ids 0 with
      | none => simp [hm] at hc
      | some m' =>
        simp only [hm, Option.some.injEq] at hc
        subst hc
        obtain ⟨m1, m2⟩ := canM_get ids 0 m' hm
        have hZ : ∀ b, ZZ X0 (canL e L ids 0) b → ZZ X0 L b := by
          rintro b (h | ⟨i, x, hx, ho⟩)
          · exact .inl h
          · right
            rw [canL_get] at hx
            cases hid : ids[i]? with
            | none => simp [hid] at hx
            | some id =>
              simp only [hid, Option.map_some, Option.some.injEq] at hx
              subst hx
              rw [renL_owns] at ho
              cases hL : L[id]? with
              | none => simp [hL, LB.owns] at ho
              | some y => exact ⟨id, y, hL, by simpa [hL] using ho⟩
        have inv : ∀ {i b : Nat} {x : LB}, (canL e L ids 0)[i]? = some x → x.owns b → ∃ id y, ids[i]? = some id ∧ L[id]? = some y ∧ y.owns b := by
          intro i b x hx ho
          rw [canL_get] at hx
          cases hid : ids[i]? with
          | none => simp [hid] at hx
          | some id =>
            simp only [hid, Option.map_some, Option.some.injEq] at hx
            subst hx
            rw [renL_owns] at ho
            cases hL : L[id]? with
            | none => simp [hL, LB.owns] at ho
            | some y => exact ⟨id, y, rfl, hL, by simpa [hL] using ho⟩
        obtain ⟨t1, t2⟩ := canT_sound (e := e) (ids := ids) hs.mem hZ s.t keep 0 t (fun j => a.tmps.getD j Go.undef) ht hs.tv
        refine ⟨canL e L ids 0, ⟨⟨?_, ?_, ?_, ?_, ?_, hs.mem.fr, hs.mem.xl⟩, ?_, t2, hs.df⟩, ⟨he.size, he.same, he.sz, fun b hb => he.z b (hZ b hb), fun i x hx => ?_⟩⟩
        · rw [canL_length, m1]
        · intro i x hx
          rw [canL_get] at hx
          cases hid : ids[i]? with
          | none => simp [hid] at hx
          | some id =>
            simp only [hid, Option.map_some, Option.some.injEq] at hx
            have hb := m2 i id hid
            rw [Nat.zero_add] at hx hb
            cases hL : L[id]? with
            | none =>
              simp only [hL, Option.getD_none, renL] at hx
              subst hx
              have hge : s.m.length ≤ id := by
                rw [← hs.mem.ll]
                exact List.getElem?_eq_none_iff.1 hL
              rw [bnth_ge hge] at hb
              simp only at hb
              show BlkRep w _ _ .dead (bnth m' i)
              rw [hb]
              trivial
            | some y =>
              simp only [hL, Option.getD_some] at hx
              subst hx
              have hB := hs.mem.blk id y hL
              show BlkRep w _ _ _ (bnth m' i)
              cases y with
              | dead =>
                cases hβ : bnth s.m id with
                | dead =>
                  rw [hβ] at hb
                  simp only at hb
                  rw [hb]
                  trivial
                | cells cs => rw [hβ] at hB; exact hB.elim
                | row v k l => rw [hβ] at hB; exact hB.elim
              | cell b =>
                cases hβ : bnth s.m id with
                | dead => rw [hβ] at hB; exact hB.elim
                | row v k l => rw [hβ] at hB; exact hB.elim
                | cells cs =>
                  rw [hβ] at hB hb
                  obtain ⟨cs', h1, h2⟩ := hb
                  obtain ⟨C, ty, g1, g2, g3⟩ := hB
                  obtain ⟨r1, r2⟩ := ren_sound (e := e) (ids := ids) hs.mem hZ 64 cs cs' (fun j => C.getD j Go.undef) h1 g3
                  rw [h2]
                  exact ⟨C, ty, g1, by omega, r2⟩
              | row c v n =>
                cases hβ : bnth s.m id with
                | dead => rw [hβ] at hB; cases c <;> exact hB.elim
                | cells cs => rw [hβ] at hB; cases c <;> exact hB.elim
                | row v' k l =>
                  rw [hβ] at hB hb
                  simp only at hb
                  rw [hb]
                  cases c with
                  | none =>
                    obtain ⟨rfl, h2, h3⟩ := hB
                    exact ⟨rfl, h2, h3⟩
                  | some b =>
                    obtain ⟨rfl, h2, h3, C, ty, z, h4, h5, h6, h7⟩ := hB
                    exact ⟨rfl, h2, h3, C, ty, z, h4, h5, h6, fun i' x' hx' j hj => ((h7 i' x' hx' j hj).strip (enc_clean k x' j hj) hZ).weaken (fun _ h => h)⟩
        · intro i j x y b hx hy ox oy
          obtain ⟨id1, x1, a1, a2, a3⟩ := inv hx ox
          obtain ⟨id2, y1, b1, b2, b3⟩ := inv hy oy
          have := hs.mem.inj id1 id2 x1 y1 b a2 b2 a3 b3
          subst this
          exact (List.getElem?_inj (List.getElem?_eq_some_iff.1 a1).1 hnd).1 (a1.trans b1.symm)
        · intro i x b hx ho
          obtain ⟨id, y, _, h2, h3⟩ := inv hx ho
          exact hs.mem.own id y b h2 h3
        · intro i x b hx ho
          obtain ⟨id, y, _, h2, h3⟩ := inv hx ho
          exact hs.mem.nx id y b h2 h3
        · show a.tmps.size = t.length
          rw [t1, hs.tl]
        · obtain ⟨y, hy, hle⟩ := he.le i x hx
          have hie : i < e := by
            rw [← hl]
            exact (List.getElem?_eq_some_iff.1 hx).1
          have hid : ids[i]? = some i := by
            rw [hpre, List.getElem?_append_left (by rw [upTo_length]; exact hie), upTo_get e 0 i hie, Nat.zero_add]
          refine ⟨y, ?_, hle⟩
          rw [canL_get, hid]
          simp only [Option.map_some, hy, Option.getD_some, Nat.zero_add, Option.some.injEq]
          have hv : ∀ v, verN e i v = v := fun v => by simp [verN, ltN_iff.2 hie]
          cases y with
          | dead => rfl
          | cell b => rfl
          | row c v n => simp [renL, hv]

end tidy

end Go.Proofs.Ytnghlmogcbmlfaa
