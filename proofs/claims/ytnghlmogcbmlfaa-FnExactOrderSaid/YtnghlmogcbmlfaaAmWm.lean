/- Reading where more memory lies: what could be read before is read alike. -/
import Derived.Test.YtnghlmogcbmlfaaAmW
namespace Go.Proofs.Ytnghlmogcbmlfaa
set_option linter.unusedVariables false
set_option linter.unusedSimpArgs false

/-- What lies in one memory lies in the other one. -/
def Mono (m m' : List Blk) : Prop := ∀ id, bnth m id ≠ .dead → bnth m' id = bnth m id

theorem Mono.refl (m : List Blk) : Mono m m := fun _ _ => rfl

theorem Mono.app (m : List Blk) (b : Blk) : Mono m (m ++ [b]) := by
  intro id h
  induction m generalizing id with
  | nil => exact absurd rfl h
  | cons x m ih =>
    cases id with
    | zero => rfl
    | succ id => exact ih id h

section
variable {m m' : List Blk}

theorem Mono.row (h : Mono m m') {id : Nat} {v : Nat} {k : Kd} {l : List (T k)} (hb : bnth m id = .row v k l) : bnth m' id = .row v k l := by
  rw [h id (by rw [hb]; intro e; cases e), hb]

theorem Mono.cells (h : Mono m m') {id : Nat} {cs : List AV} (hb : bnth m id = .cells cs) : bnth m' id = .cells cs := by
  rw [h id (by rw [hb]; intro e; cases e), hb]

theorem asList_mono (h : Mono m m') {k : Kd} {v : AV} {l : List (T k)} (hv : asList k m v = some l) : asList k m' v = some l := by
  cases v <;> simp only [asList] at hv ⊢ <;> try exact hv
  rename_i id v lo len
  cases hb : bnth m id <;> simp only [hb] at hv <;> try (simp at hv; done)
  rw [h.row hb]
  exact hv

theorem whole_mono (h : Mono m m') {k : Kd} {v : AV} {l : List (T k)} (hv : whole k m v = some l) : whole k m' v = some l := by
  cases v <;> simp only [whole] at hv ⊢ <;> try exact hv
  rename_i id v lo len
  cases hb : bnth m id <;> simp only [hb] at hv <;> try (simp at hv; done)
  rw [h.row hb]
  exact hv

theorem ldA_mono (h : Mono m m') {g : Bool} {n : Nat} {v y : AV} (hv : ldA m g n v = some y) : ldA m' g n v = some y := by
  cases v <;> simp only [ldA] at hv ⊢ <;> try exact hv
  · rename_i id off
    cases hb : bnth m id <;> simp only [hb] at hv <;> try (simp at hv; done)
    rw [h.cells hb]
    exact hv
  · rename_i id v i off
    cases hb : bnth m id <;> simp only [hb] at hv <;> try (simp at hv; done)
    rw [h.row hb]
    exact hv

theorem ldbA_mono (h : Mono m m') {g : Bool} {n : Nat} {v y : AV} (hv : ldbA m g n v = some y) : ldbA m' g n v = some y := by
  cases v <;> simp only [ldbA] at hv ⊢ <;> try exact hv
  rename_i id off
  cases hb : bnth m id <;> simp only [hb] at hv <;> try (simp at hv; done)
  rw [h.cells hb]
  exact hv

theorem lenA_mono (h : Mono m m') {v y : AV} (hv : lenA m v = some y) : lenA m' v = some y := by
  cases v <;> simp only [lenA] at hv ⊢ <;> try exact hv
  rename_i id v lo len
  cases hb : bnth m id <;> simp only [hb] at hv <;> try (simp at hv; done)
  rw [h.row hb]
  exact hv

theorem iaA_mono (h : Mono m m') {k : Kd} {v i y : AV} (hv : iaA k m v i = some y) : iaA k m' v i = some y := by
  cases i <;> simp only [iaA] at hv ⊢ <;> try (simp at hv; done)
  cases v <;> simp only at hv ⊢ <;> try exact hv
  rename_i id v lo len
  cases hb : bnth m id <;> simp only [hb] at hv <;> try (simp at hv; done)
  rw [h.row hb]
  exact hv

theorem slcA_mono (h : Mono m m') {k : Kd} {v y : AV} {a b : Option AV} (hv : slcA k m v a b = some y) : slcA k m' v a b = some y := by
  cases v <;> simp only [slcA] at hv ⊢ <;> try exact hv
  rename_i id v lo len
  cases hb : bnth m id <;> simp only [hb] at hv <;> try (simp at hv; done)
  rw [h.row hb]
  exact hv

theorem im_mono (h : Mono m m') : ∀ (d : Nat) (vs r : List AV), im m d vs = some r → im m' d vs = some r := by
  intro d
  induction d with
  | zero => intro vs r hv; simp [im] at hv
  | succ d ih =>
    intro vs r hv
    cases vs with
    | nil => simpa [im] using hv
    | cons v vs =>
      simp only [im] at hv ⊢
      cases ht : im m d vs with
      | none => simp [ht] at hv
      | some t =>
        rw [ih vs t ht]
        simp only [ht] at hv ⊢
        cases v <;> simp only at hv ⊢ <;> try exact hv
        case ms id v lo len =>
          cases hb : bnth m id <;> simp only [hb] at hv <;> try (simp at hv; done)
          rw [h.row hb]
          exact hv
        case rp id v i off =>
          cases hb : bnth m id <;> simp only [hb] at hv <;> try (simp at hv; done)
          rw [h.row hb]
          exact hv
        case ptr id off =>
          cases hb : bnth m id <;> simp only [hb] at hv <;> try (simp at hv; done)
          rename_i cs
          rw [h.cells hb]
          simp only
          cases hc : im m d cs with
          | none => simp [hc] at hv
          | some cs2 =>
            rw [ih cs cs2 hc]
            simpa [hc] using hv
        case ip cs off =>
          cases hc : im m d cs with
          | none => simp [hc] at hv
          | some cs2 =>
            rw [ih cs cs2 hc]
            simpa [hc] using hv
        case fn f cs =>
          cases hc : im m d cs with
          | none => simp [hc] at hv
          | some cs2 =>
            rw [ih cs cs2 hc]
            simpa [hc] using hv
        case agg cs =>
          cases hc : im m d cs with
          | none => simp [hc] at hv
          | some cs2 =>
            rw [ih cs cs2 hc]
            simpa [hc] using hv

theorem conv_mono (h : Mono m m') : ∀ (d : Nat) (ms : List Mode) (vs r : List AV), conv false m m d ms vs = some r → conv false m' m' d ms vs = some r := by
  intro d
  induction d with
  | zero => intro ms vs r hv; cases ms <;> cases vs <;> simp [conv] at hv
  | succ d ih =>
    intro ms vs r hv
    cases ms with
    | nil => cases vs with
      | nil => simpa [conv] using hv
      | cons v vs => simp [conv] at hv
    | cons md ms =>
      cases vs with
      | nil => simp [conv] at hv
      | cons v vs =>
        simp only [conv] at hv ⊢
        cases ht : conv false m m d ms vs with
        | none => simp [ht] at hv
        | some t =>
          rw [ih ms vs t ht]
          simp only [ht] at hv ⊢
          cases md <;> simp only at hv ⊢
          case v =>
            cases hc : im m d [v] with
            | none => simp [hc] at hv
            | some c =>
              rw [im_mono h d [v] c hc]
              simpa [hc] using hv
          case fn =>
            cases v <;> simp only at hv ⊢ <;> try exact hv
            rename_i f cs
            cases hc : im m d cs with
            | none => simp [hc] at hv
            | some c =>
              rw [im_mono h d cs c hc]
              simpa [hc] using hv
          case imm k =>
            cases hc : asList k m v with
            | none => simp [hc] at hv
            | some c =>
              rw [asList_mono h hc]
              simpa [hc] using hv
          case own k =>
            cases hc : whole k m v with
            | none => simp [hc] at hv
            | some c =>
              rw [whole_mono h hc]
              simpa [hc] using hv
          case mrow k =>
            cases hc : whole k m v with
            | none => simp [hc] at hv
            | some c =>
              rw [whole_mono h hc]
              simpa [hc] using hv
          case agg ms2 =>
            cases v <;> simp only at hv ⊢ <;> try exact hv
            rename_i cs
            cases hc : conv false m m d ms2 cs with
            | none => simp [hc] at hv
            | some c =>
              rw [ih ms2 cs c hc]
              simpa [hc] using hv
          case tup ms2 =>
            cases v <;> simp only at hv ⊢ <;> try exact hv
            rename_i cs
            cases hc : conv false m m d ms2 cs with
            | none => simp [hc] at hv
            | some c =>
              rw [ih ms2 cs c hc]
              simpa [hc] using hv
          case box ms2 =>
            cases v <;> simp only at hv ⊢ <;> try exact hv
            rename_i id off
            cases off with
            | succ off => exact hv
            | zero =>
              simp only at hv ⊢
              cases hb : bnth m id <;> simp only [hb] at hv <;> try (simp at hv; done)
              rename_i cs
              rw [h.cells hb]
              simp only
              cases hc : conv false m m d ms2 cs with
              | none => simp [hc] at hv
              | some c =>
                rw [ih ms2 cs c hc]
                simpa [hc] using hv

theorem taken_mono (h : Mono m m') : ∀ (d : Nat) (ms : List Mode) (vs : List AV) (r : List Nat), taken m d ms vs = some r → taken m' d ms vs = some r := by
  intro d
  induction d with
  | zero => intro ms vs r hv; cases ms <;> cases vs <;> simp [taken] at hv
  | succ d ih =>
    intro ms vs r hv
    cases ms with
    | nil => cases vs with
      | nil => simpa [taken] using hv
      | cons v vs => simp [taken] at hv
    | cons md ms =>
      cases vs with
      | nil => simp [taken] at hv
      | cons v vs =>
        simp only [taken] at hv ⊢
        cases ht : taken m d ms vs with
        | none => simp [ht] at hv
        | some t =>
          rw [ih ms vs t ht]
          simp only [ht] at hv ⊢
          cases md <;> simp only at hv ⊢ <;> try exact hv
          case agg ms2 =>
            cases v <;> simp only at hv ⊢ <;> try exact hv
            rename_i cs
            cases hc : taken m d ms2 cs with
            | none => simp [hc] at hv
            | some c =>
              rw [ih ms2 cs c hc]
              simpa [hc] using hv
          case tup ms2 =>
            cases v <;> simp only at hv ⊢ <;> try exact hv
            rename_i cs
            cases hc : taken m d ms2 cs with
            | none => simp [hc] at hv
            | some c =>
              rw [ih ms2 cs c hc]
              simpa [hc] using hv
          case box ms2 =>
            cases v <;> simp only at hv ⊢ <;> try exact hv
            rename_i id off
            cases hb : bnth m id <;> simp only [hb] at hv <;> try (simp at hv; done)
            rename_i cs
            rw [h.cells hb]
            simp only
            cases hc : taken m d ms2 cs with
            | none => simp [hc] at hv
            | some c =>
              rw [ih ms2 cs c hc]
              simpa [hc] using hv

theorem callP_mono (h : Mono m m') {c : Con} {vs : List AV} {r : AV} (hv : callP c vs m = some r) : callP c vs m' = some r := by
  unfold callP at hv ⊢
  cases hp : c.pure with
  | false => simp [hp] at hv
  | true =>
    simp only [hp] at hv ⊢
    unfold Con.pure at hp
    cases hq : Mode.pure 64 (c.rm :: c.ms) with
    | false => simp [hq] at hp
    | true =>
      have hms : Mode.pure 63 c.ms = true := by
        simp only [Mode.pure] at hq
        cases hrm : c.rm <;> simp only [hrm] at hq <;> try (simp at hq; done)
        all_goals first
          | exact hq
          | (split at hq
             · exact hq
             · simp at hq)
      unfold hand at hv ⊢
      cases htk : taken m 64 c.ms vs with
      | none => simp [htk] at hv
      | some ids =>
        obtain rfl := pure_taken 63 64 c.ms vs ids hms htk
        rw [taken_mono h 64 c.ms vs [] htk]
        simp only [htk, noTwice, killAll] at hv ⊢
        cases hcv : conv false m m 64 c.ms vs with
        | none => simp [hcv] at hv
        | some as =>
          rw [conv_mono h 64 c.ms vs as hcv]
          simpa [hcv] using hv

end

end Go.Proofs.Ytnghlmogcbmlfaa
