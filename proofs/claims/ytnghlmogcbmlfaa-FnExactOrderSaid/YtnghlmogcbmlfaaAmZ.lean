/- From a row's arguments, as they are read, to values of the small machine; and back to what a row asks. -/
import Derived.Test.YtnghlmogcbmlfaaAmY
import Derived.ChangeSame
import Derived.JoinedOf
import Derived.JoinedAt
import Derived.Carry
namespace Go.Proofs.Ytnghlmogcbmlfaa
set_option linter.unusedVariables false
set_option linter.unusedSimpArgs false
set_option linter.unnecessarySimpa false
open Go.ChangeShapes Go.WideShapes Go.RowKit

/-- A cell of an argument. -/
inductive Lf where
  | int (k : IntKind) | bool | str | sl (k : Kd)
  deriving DecidableEq

def flatFs (P : Program) (g : TypeId → Option (List Lf)) : Nat → List Field → Option (List Lf)
  | _, [] => some []
  | off, f :: r => match g f.type with
    | some l => if f.offset = off ∧ P.cellsOf f.type = l.length then match flatFs P g (off + l.length) r with
        | some q => some (l ++ q)
        | none => none
      else none
    | none => none

/-- The cells of a type. -/
def flat (P : Program) (kt : KT) : Nat → TypeId → Option (List Lf)
  | 0, _ => none
  | d + 1, t => match P.underlying t with
    | some (.int k) => some [.int k]
    | some .bool => some [.bool]
    | some .string => some [.str]
    | some (.slice e) => match kt.get e with
      | some k => if P.cellsOf e = wid k then some [.sl k] else none
      | none => none
    | some (.struct fs) => match flatFs P (flat P kt d) 0 fs.toList with
      | some l => if P.cellsOf t = l.length then some l else none
      | none => none
    | _ => none

def kdFlat : Kd → List Lf
  | .int => [.int .i64]
  | .u8 => [.int .u8]
  | .bool => [.bool]
  | .str => [.str]
  | .fact => [.int .i64, .int .i64, .int .i64]
  | .doubt => [.int .i64, .int .i64, .int .i64]
  | .rumor => [.int .i64, .int .i64, .int .i64, .int .i64]
  | .item => [.int .i64, .int .i64, .int .i64, .int .i64]
  | .rcd => [.int .i64, .int .i64, .int .i64, .int .i64, .int .i64, .int .i64]
  | .due => [.int .i64, .int .i64, .int .i64, .str]
  | .mail => [.int .i64, .int .i64, .int .i64, .int .i64, .int .i64, .int .i64, .sl .fact]
  | .node => [.int .i64, .int .i64, .int .i64, .int .i64, .int .i64, .sl .fact, .sl .rumor, .sl .int, .int .i64, .int .i64, .int .i64, .int .i64, .bool, .sl .doubt]
  | .ints => [.sl .int]
  | .bools => [.sl .bool]
  | .recs => [.sl .rcd]

def okKt (P : Program) (kt : KT) : Bool := kt.all fun p => decide (flat P kt 8 p.1 = some (kdFlat p.2))

def leafOk : Lf → AV → Prop
  | .int k, a => ∃ n, a = .int k n ∧ InK k n
  | .bool, a => ∃ b, a = .bool b
  | .str, a => ∃ s, a = .str s
  | .sl k, a => ∃ l : List (T k), a = .sl k l

/-- Cells, one for one. -/
def leafs : List Lf → List AV → Prop
  | [], [] => True
  | x :: r, a :: s => leafOk x a ∧ leafs r s
  | _, _ => False

theorem leafs_append : ∀ {l : List Lf} {a : List AV} {l2 : List Lf} {a2 : List AV}, leafs l a → leafs l2 a2 → leafs (l ++ l2) (a ++ a2) := by
  intro l
  induction l with
  | nil => intro a l2 a2 h h2; cases a with
    | nil => exact h2
    | cons x a => exact h.elim
  | cons x l ih => intro a l2 a2 h h2; cases a with
    | nil => exact h.elim
    | cons y a => exact ⟨h.1, ih h.2 h2⟩

theorem leafs_length : ∀ {l : List Lf} {a : List AV}, leafs l a → a.length = l.length := by
  intro l
  induction l with
  | nil => intro a h; cases a with
    | nil => rfl
    | cons x a => exact h.elim
  | cons x l ih => intro a h; cases a with
    | nil => exact h.elim
    | cons y a => simp [ih h.2]

theorem leafs_cons {x : Lf} {l : List Lf} {a : List AV} (h : leafs (x :: l) a) : ∃ y s, a = y :: s ∧ leafOk x y ∧ leafs l s := by
  cases a with
  | nil => exact h.elim
  | cons y s => exact ⟨y, s, rfl, h.1, h.2⟩

theorem leafs_nil {a : List AV} (h : leafs [] a) : a = [] := by
  cases a with
  | nil => rfl
  | cons y s => exact h.elim

theorem u8_back {n : Int} (h : InK .u8 n) : 0 ≤ n ∧ n < 256 := by
  have e1 : IntKind.u8.min = 0 := by decide
  have e2 : IntKind.u8.max = 255 := by decide
  unfold InK at h
  omega

theorem leafs_int {k : IntKind} {l : List Lf} {a : List AV} (h : leafs (.int k :: l) a) : ∃ n s, a = .int k n :: s ∧ InK k n ∧ leafs l s := by
  obtain ⟨y, s, rfl, ⟨n, rfl, hn⟩, h2⟩ := leafs_cons h
  exact ⟨n, s, rfl, hn, h2⟩

theorem leafs_bool {l : List Lf} {a : List AV} (h : leafs (.bool :: l) a) : ∃ b s, a = .bool b :: s ∧ leafs l s := by
  obtain ⟨y, s, rfl, ⟨b, rfl⟩, h2⟩ := leafs_cons h
  exact ⟨b, s, rfl, h2⟩

theorem leafs_str {l : List Lf} {a : List AV} (h : leafs (.str :: l) a) : ∃ b s, a = .str b :: s ∧ leafs l s := by
  obtain ⟨y, s, rfl, ⟨b, rfl⟩, h2⟩ := leafs_cons h
  exact ⟨b, s, rfl, h2⟩

theorem leafs_sl {k : Kd} {l : List Lf} {a : List AV} (h : leafs (.sl k :: l) a) : ∃ (x : List (T k)) (s : List AV), a = .sl k x :: s ∧ leafs l s := by
  obtain ⟨y, s, rfl, ⟨b, rfl⟩, h2⟩ := leafs_cons h
  exact ⟨b, s, rfl, h2⟩

theorem kd_leafs {k : Kd} {a : List AV} (h : leafs (kdFlat k) a) : ∃ x : T k, enc k x = a := by
  have key : ∃ x : T k, dec k a = some x := by
    cases k <;> simp only [kdFlat] at h
    case u8 =>
      obtain ⟨n, s, rfl, hn, h2⟩ := leafs_int h
      obtain rfl := leafs_nil h2
      have := u8_back hn
      exact ⟨_, by simp only [dec, if_pos this]; rfl⟩
    all_goals
      repeat first
        | (have h2 := leafs_int h; clear h; obtain ⟨n, s, rfl, hn, h⟩ := h2)
        | (have h2 := leafs_bool h; clear h; obtain ⟨n, s, rfl, h⟩ := h2)
        | (have h2 := leafs_str h; clear h; obtain ⟨n, s, rfl, h⟩ := h2)
        | (have h2 := leafs_sl h; clear h; obtain ⟨n, s, rfl, h⟩ := h2)
      obtain rfl := leafs_nil h
      exact ⟨_, rfl⟩
  obtain ⟨x, hx⟩ := key
  exact ⟨x, dec_enc hx⟩

section reads
variable {H : Type} {enc' : TypeId × Value → H} {P : Program} {w : World} {kt : KT} {spare : Nat → Bool} {held : Bool}

theorem find_mem {kt : KT} {e : TypeId} {k : Kd} (h : kt.get e = some k) : (e, k) ∈ kt := by
  unfold KT.get at h
  simp only [Option.map_eq_some_iff] at h
  obtain ⟨p, hp, rfl⟩ := h
  have h1 := List.mem_of_find?_eq_some hp
  have h2 := List.find?_some hp
  simp only [beq_iff_eq] at h2
  rw [← h2]
  exact h1

theorem trod_leafs (hk : okKt P kt = true) : ∀ (fuel : Nat) (t : TypeId) (cs : List Value) (x : DataW H × List MemPlace), DataW.trod enc' P w 0 spare held fuel t cs = some x → ∀ (d : Nat) (ls : List Lf), flat P kt d t = some ls →
    cs.length = ls.length ∧ ∃ as : List AV, leafs ls as ∧ ∀ j, j < as.length → RepV w [] (fun _ => False) (nth as j) (cs[j]?.getD Go.undef) := by
  intro fuel
  induction fuel with
  | zero => intro t cs x h; simp [DataW.trod] at h
  | succ fuel ih =>
    intro t cs x h d ls hf
    cases d with
    | zero => simp [flat] at hf
    | succ d =>
      simp only [flat] at hf
      have one : ∀ (v : Value) (a : AV) (lf : Lf), cs = [v] → ls = [lf] → leafOk lf a → RepV w [] (fun _ => False) a v →
          cs.length = ls.length ∧ ∃ as : List AV, leafs ls as ∧ ∀ j, j < as.length → RepV w [] (fun _ => False) (nth as j) (cs[j]?.getD Go.undef) := by
        rintro v a lf rfl rfl h1 h2
        refine ⟨rfl, [a], ⟨h1, trivial⟩, fun j hj => ?_⟩
        obtain rfl : j = 0 := by simpa using hj
        exact h2
      cases hu : P.underlying t with
      | none => simp [hu] at hf
      | some ty =>
        cases ty <;> simp only [hu] at hf <;> try (simp at hf; done)
        case bool =>
          simp only [Option.some.injEq] at hf
          subst hf
          obtain ⟨b, hc, _⟩ := DataW.trod_bool hu h
          exact one (.bool b) (.bool b) .bool hc rfl ⟨b, rfl⟩ (.bool b)
        case int k =>
          simp only [Option.some.injEq] at hf
          subst hf
          obtain ⟨n, hc, _, hwf⟩ := DataW.trod_int hu h
          have hin : InK k n := by
            simp only [Lit.wf, Bool.and_eq_true, decide_eq_true_eq] at hwf
            exact hwf
          exact one (.int k n) (.int k n) (.int k) hc rfl ⟨n, rfl, hin⟩ (.int k n hin)
        case string =>
          simp only [Option.some.injEq] at hf
          subst hf
          obtain ⟨b, hc, _, hs⟩ := DataW.trod_string hu h
          exact one (.string b) (.str b) .str hc rfl ⟨b, rfl⟩ (.str b hs)
        case slice e0 =>
          cases hke : kt.get e0 with
          | none => simp [hke] at hf
          | some k =>
            simp only [hke] at hf
            split at hf
            · rename_i hcell
              simp only [Option.some.injEq] at hf
              subst hf
              have hfl : flat P kt 8 e0 = some (kdFlat k) := by
                have := List.all_eq_true.1 hk (e0, k) (find_mem hke)
                exact of_decide_eq_true this
              rcases DataW.trod_slice hu h with ⟨hcs, _⟩ | ⟨a, len, cap, elems, rest, n0, hfu, hcs, _, _, hlc, hcm, hel, hget, _⟩
              · exact one (.slice none 0 0) (.sl k []) (.sl k) hcs rfl ⟨[], rfl⟩ (.sl k [] none 0 0 0 (fun _ => Go.undef) (Nat.zero_le _) (Nat.zero_le _) (fun h => absurd rfl h) (fun j hj => by simp at hj) (fun i x hx => by simp at hx))
              · have hn0 : n0 = fuel := by omega
                subst hn0
                · have each : ∀ i, i < len → ∃ cse y, w.cells? 0 (a.add (i * P.cellsOf e0)) (P.cellsOf e0) = some cse ∧ DataW.trod enc' P w 0 spare held n0 e0 cse = some y := by
                    intro i hi
                    have := hget i hi
                    rw [List.getElem?_eq_getElem (by omega)] at this
                    simp only [Option.bind_eq_some_iff] at this
                    obtain ⟨cse, h1, h2⟩ := this
                    exact ⟨cse, _, h1, h2⟩
                  have hw0 := wid_pos k
                  have hspot : 0 < len → a.spot = none := by
                    intro hl
                    obtain ⟨cse, y, h1, _⟩ := each 0 hl
                    obtain ⟨_, h3, h4⟩ := World.cells?_some h1
                    have := h4 0 (by omega)
                    rw [List.getElem?_eq_getElem (by omega)] at this
                    simp only [Nat.zero_mul, Addr.add, if_true] at this
                    unfold World.cell? at this
                    split at this
                    · cases hsp : a.spot with
                      | none => rfl
                      | some q => simp [hsp] at this
                    · simp at this
                  let C : Nat → Value := fun q => (w.cell? ⟨a.block, a.off + q, none⟩).getD Go.undef
                  have elem : ∀ i, i < len → ∃ x : T k, ∀ j, j < wid k → w.cell? ⟨a.block, a.off + (i * wid k + j), none⟩ = some (C (i * wid k + j)) ∧ RepV w [] (fun _ => False) (nth (enc k x) j) (C (i * wid k + j)) := by
                    intro i hi
                    obtain ⟨cse, y, h1, h2⟩ := each i hi
                    obtain ⟨q1, as, q2, q3⟩ := ih e0 cse y h2 8 (kdFlat k) hfl
                    obtain ⟨x, hx⟩ := kd_leafs q2
                    refine ⟨x, fun j hj => ?_⟩
                    obtain ⟨_, h3, h4⟩ := World.cells?_some h1
                    have hjl : j < cse.length := by omega
                    have := h4 j (by omega)
                    rw [List.getElem?_eq_getElem hjl, hcell] at this
                    have hadd : ((a.add (i * wid k)).add j) = ⟨a.block, a.off + (i * wid k + j), none⟩ := by
                      have hs0 := hspot (by omega)
                      obtain ⟨ab, ao, asp⟩ := a
                      simp only at hs0
                      subst hs0
                      rw [Addr.add_lit, Addr.add_lit, Nat.add_assoc]
                    rw [hadd] at this
                    have hC : C (i * wid k + j) = cse[j] := by simp only [C, this, Option.getD_some]
                    refine ⟨by rw [hC]; exact this, ?_⟩
                    rw [hC, hx]
                    have := q3 j (by rw [leafs_length q2, ← q1]; exact hjl)
                    rwa [List.getElem?_eq_getElem hjl] at this
                  have build : ∀ n, n ≤ len → ∃ l : List (T k), l.length = n ∧ ∀ i x, l[i]? = some x → ∀ j, j < wid k → RepV w [] (fun _ => False) (nth (enc k x) j) (C (i * wid k + j)) := by
                    intro n
                    induction n with
                    | zero => intro _; exact ⟨[], rfl, fun i x hx => by simp at hx⟩
                    | succ n ihn =>
                      intro hn
                      obtain ⟨l, l1, l2⟩ := ihn (by omega)
                      obtain ⟨x, hx⟩ := elem n (by omega)
                      refine ⟨l ++ [x], by simp [l1], fun i y hy j hj => ?_⟩
                      by_cases hi : i < n
                      · rw [List.getElem?_append_left (by omega)] at hy
                        exact l2 i y hy j hj
                      · have hi2 : i = n := by
                          have := (List.getElem?_eq_some_iff.1 hy).1
                          simp at this
                          omega
                        subst hi2
                        rw [List.getElem?_append_right (by omega), l1, Nat.sub_self] at hy
                        simp only [List.getElem?_cons_zero, Option.some.injEq] at hy
                        subst hy
                        exact (hx j hj).2
                  obtain ⟨l, l1, l2⟩ := build len (Nat.le_refl _)
                  refine one (.slice (some a) len cap) (.sl k l) (.sl k) hcs rfl ⟨l, rfl⟩ ?_
                  have := RepV.sl (w := w) (L := []) (Z := fun _ => False) k l (some a) cap a.block a.off C (by omega) (by omega) (fun hl => ?_) (fun q hq => ?_) l2
                  · rw [l1] at this
                    exact this
                  · have hs0 := hspot (by have := List.length_pos_iff.2 hl; omega)
                    obtain ⟨ab, ao, asp⟩ := a
                    simp only at hs0
                    subst hs0
                    exact ⟨rfl, fun h => h⟩
                  · rw [l1] at hq
                    have hi : q / wid k < len := (Nat.div_lt_iff_lt_mul hw0).2 hq
                    obtain ⟨x, hx⟩ := elem (q / wid k) hi
                    have := (hx (q % wid k) (Nat.mod_lt _ hw0)).1
                    have e : q / wid k * wid k + q % wid k = q := by rw [Nat.mul_comm]; exact Nat.div_add_mod q (wid k)
                    rw [e] at this
                    exact this
            · simp at hf
        case struct fs =>
          cases hfs : flatFs P (flat P kt d) 0 fs.toList with
          | none => simp [hfs] at hf
          | some l =>
            simp only [hfs] at hf
            split at hf
            · rename_i hcell
              simp only [Option.some.injEq] at hf
              subst hf
              obtain ⟨xs, n0, hfu, _, hlen, hxl, hxs⟩ := DataW.trod_struct hu h
              have hn0 : n0 = fuel := by omega
              subst hn0
              have fields : ∀ (fl : List Field) (off : Nat) (l : List Lf), flatFs P (flat P kt d) off fl = some l → (∀ f ∈ fl, ∃ y, DataW.trod enc' P w 0 spare held n0 f.type ((cs.drop f.offset).take (P.cellsOf f.type)) = some y) → off + l.length ≤ cs.length →
                  ∃ as : List AV, leafs l as ∧ ∀ j, j < as.length → RepV w [] (fun _ => False) (nth as j) (cs[off + j]?.getD Go.undef) := by
                intro fl
                induction fl with
                | nil =>
                  intro off l h1 h2 h3
                  simp only [flatFs, Option.some.injEq] at h1
                  subst h1
                  exact ⟨[], trivial, fun j hj => by simp at hj⟩
                | cons f fl ihf =>
                  intro off l h1 h2 h3
                  simp only [flatFs] at h1
                  cases hg : flat P kt d f.type with
                  | none => simp [hg] at h1
                  | some lf =>
                    simp only [hg] at h1
                    split at h1
                    · rename_i hc
                      obtain ⟨rfl, hcf⟩ := hc
                      cases hq : flatFs P (flat P kt d) (f.offset + lf.length) fl with
                      | none => simp [hq] at h1
                      | some q =>
                        simp only [hq, Option.some.injEq] at h1
                        subst h1
                        obtain ⟨y, hy⟩ := h2 f (by simp)
                        obtain ⟨g1, as1, g2, g3⟩ := ih _ _ _ hy d lf hg
                        obtain ⟨as2, g4, g5⟩ := ihf (f.offset + lf.length) q hq (fun g hg => h2 g (by simp [hg])) (by simp at h3; omega)
                        refine ⟨as1 ++ as2, leafs_append g2 g4, fun j hj => ?_⟩
                        have hl1 := leafs_length g2
                        by_cases hj1 : j < as1.length
                        · rw [nth_app_left hj1]
                          have := g3 j hj1
                          rw [List.getElem?_take, if_pos (by omega), List.getElem?_drop] at this
                          exact this
                        · rw [nth_app_right (by omega)]
                          have := g5 (j - as1.length) (by simp at hj; omega)
                          rw [hl1, show f.offset + lf.length + (j - lf.length) = f.offset + j by omega] at this
                          rw [hl1]
                          exact this
                    · simp at h1
              obtain ⟨as, a1, a2⟩ := fields fs.toList 0 l hfs (fun f hf => by
                obtain ⟨i, hi, rfl⟩ := List.mem_iff_getElem.1 hf
                have := hxs i fs.toList[i] (by simpa using hi)
                rw [List.getElem?_eq_getElem (by rw [hxl]; simpa using hi)] at this
                exact ⟨_, this⟩) (by omega)
              refine ⟨by omega, as, a1, fun j hj => ?_⟩
              have := a2 j hj
              rwa [Nat.zero_add] at this
            · simp at hf

/-- An argument of a row. -/
def argOk (P : Program) (kt : KT) (t : TypeId) (a : AV) : Prop :=
  ∃ ls, flat P kt 8 t = some ls ∧ match aggT P t with
    | some true => ∃ cs, a = .agg cs ∧ leafs ls cs
    | _ => leafs ls [a]

def argsOk (P : Program) (kt : KT) : List TypeId → List AV → Prop
  | [], [] => True
  | t :: ts, a :: as => argOk P kt t a ∧ argsOk P kt ts as
  | _, _ => False

def flatAll (P : Program) (kt : KT) (ts : List TypeId) : Bool := ts.all fun t => (flat P kt 8 t).isSome

theorem args_rep (hk : okKt P kt = true) : ∀ (ts : List TypeId) (vs : List Value) (ds : List (DataW H)) (ps : List MemPlace), DataW.TrodAll enc' P w 0 spare held ts vs ds ps → flatAll P kt ts = true →
    (∀ (j : Nat) (t : TypeId) (v : Value), ts[j]? = some t → vs[j]? = some v → aggT P t = some true → ∃ cs, v = .agg cs) → (∀ (j : Nat) (t : TypeId) (v : Value), ts[j]? = some t → vs[j]? = some v → aggT P t = some false → v.cells = #[v]) →
    ∃ as, RepL w (fun _ => False) as vs [] ∧ argsOk P kt ts as ∧ ds.length = ts.length := by
  intro ts
  induction ts with
  | nil =>
    intro vs ds ps h _ _ _
    obtain ⟨rfl, rfl, rfl⟩ := trodAll_nil h
    exact ⟨[], .nil, trivial, rfl⟩
  | cons t ts ih =>
    intro vs ds ps h hfa hag hsi
    obtain ⟨v, vs', d, ds', p, q, rfl, rfl, rfl, ⟨fuel, h1⟩, h2⟩ := trodAll_cons h
    simp only [flatAll, List.all_cons, Bool.and_eq_true] at hfa
    obtain ⟨ls, hls⟩ := Option.isSome_iff_exists.1 hfa.1
    obtain ⟨as, r1, r2, r3⟩ := ih vs' ds' q h2 hfa.2 (fun j t v h1 h2 => hag (j + 1) t v h1 h2) (fun j t v h1 h2 => hsi (j + 1) t v h1 h2)
    obtain ⟨g1, al, g2, g3⟩ := trod_leafs hk fuel t v.cells.toList _ h1 8 ls hls
    have hagT : aggT P t ≠ none := by
      have := hls
      unfold aggT
      simp only [flat] at this
      cases hu : P.underlying t with
      | none => simp [hu] at this
      | some ty => cases ty <;> simp
    cases ha : aggT P t with
    | none => exact absurd ha hagT
    | some g =>
      cases g with
      | true =>
        obtain ⟨cs, rfl⟩ := hag 0 t v rfl rfl ha
        have hl := leafs_length g2
        have g1' : cs.size = ls.length := by simpa [Value.cells] using g1
        refine ⟨.agg al :: as, .plain (.agg al cs (by omega) (fun j hj => ?_)) r1, ⟨⟨ls, hls, ?_⟩, r2⟩, by simp [r3]⟩
        · have := g3 j hj
          simpa [Value.cells, Array.getD_eq_getD_getElem?] using this
        · simp only [ha]
          exact ⟨al, rfl, g2⟩
      | false =>
        have hc := hsi 0 t v rfl rfl ha
        rw [hc] at g1 g3
        have hl := leafs_length g2
        cases al with
        | nil => simp at hl g1; omega
        | cons a al =>
          cases al with
          | cons b al => simp at hl g1; omega
          | nil =>
            refine ⟨a :: as, .plain ?_ r1, ⟨⟨ls, hls, ?_⟩, r2⟩, by simp [r3]⟩
            · simpa [nth] using g3 0 (by simp)
            · simp only [ha]
              exact g2

theorem trodAll_stays (hl : laidOutB P = true) {W W' : World} {sp' : Nat → Bool} : ∀ {ts : List TypeId} {vs : List Value} {ds : List (DataW H)} {ps : List MemPlace}, DataW.TrodAll enc' P W 0 (fun _ => true) true ts vs ds ps → (∀ t ∈ ts, P.readableRec t = true ∧ t < P.types.size) →
    (∀ p ∈ ps, W.sameAt W' p) → (∀ p ∈ ps, sp' p.block = true) → DataW.TrodAll enc' P W' 0 sp' true ts vs ds ps := by
  intro ts
  induction ts with
  | nil =>
    intro vs ds ps h _ _ _
    obtain ⟨rfl, rfl, rfl⟩ := trodAll_nil h
    exact rfl
  | cons t ts ih =>
    intro vs ds ps h hr hs hsp
    obtain ⟨v, vs', d, ds', p, q, rfl, rfl, rfl, h1, h2⟩ := trodAll_cons h
    obtain ⟨r1, r2⟩ := hr t (by simp)
    exact ⟨p, q, WideElems.Trod_stays hl r1 r2 h1 (fun x hx => hs x (by simp [hx])) (fun x hx => hsp x (by simp [hx])), ih h2 (fun t ht => hr t (by simp [ht])) (fun x hx => hs x (by simp [hx])) (fun x hx => hsp x (by simp [hx])), rfl⟩

/-- What a law's row asks, of a call that gave back true and turned nothing that was there. -/
theorem law_post {f : Func} {s : ChangeSpec} {apart fresh handsOn again : Bool} {W W' : World} {args : Array Value} {ds gs : List (DataW H)} {before : List MemPlace} {tb : TypeId} (hl : laidOutB P = true)
    (hW : DataW.Whole enc' P f.params.toList s.vars apart W args.toList ds gs before) (hv : s.vars = []) (hs1 : (s.fn H (ds ++ gs)).results = [.lit (.bool true)]) (hs2 : (s.fn H (ds ++ gs)).args = ds) (hs3 : (s.fn H (ds ++ gs)).vars = [])
    (hrt : f.resultTypes = #[tb]) (htb : P.underlying tb = some .bool) (hrd : ∀ t ∈ f.params.toList, P.readableRec t = true ∧ t < P.types.size) (hfr : Frame W W' (fun _ => False)) :
    s.post enc' P f apart fresh handsOn again W args (.bool true) W' := by
  have hlt := hW.lt
  have hW2 := hW
  obtain ⟨p, q, hA, hV, hpq, hz, hn⟩ := hW2
  rw [hv] at hV
  obtain ⟨hg0, hq0⟩ := trodVars_none hV
  subst hq0
  have hbp : before = p := by simpa using hpq
  subst hbp
  have hb : Below W.heap.size W W' := ⟨hfr.os, hfr.tape, hfr.output, hfr.size, fun k hk => hfr.same k hk (fun h => h)⟩
  have hsame : ∀ x ∈ before, W.sameAt W' x := fun x hx => hb.same (hlt x hx)
  have hres : ∀ (b : Nat) (sp : Nat → Bool) (hd : Bool), DataW.TrodAll enc' P W' b sp hd f.resultTypes.toList ((Value.bool true).resultList f.resultTypes.size) (s.fn H (ds ++ gs)).results [] := by
    intro b sp hd
    rw [hs1, hrt]
    refine ⟨[], [], ⟨1, ?_⟩, rfl, rfl⟩
    simp [DataW.trod, htb, Value.cells]
  have hargs : ∀ sp : Nat → Bool, (∀ p ∈ before, sp p.block = true) → DataW.TrodAll enc' P W' 0 sp true f.params.toList args.toList (s.fn H (ds ++ gs)).args before := by
    intro sp hsp
    rw [hs2]
    exact trodAll_stays hl hA hrd hsame hsp
  have hvars : ∀ sp : Nat → Bool, DataW.TrodVars enc' P W' sp s.vars (s.fn H (ds ++ gs)).vars [] := by
    intro sp
    rw [hv, hs3]
    exact rfl
  have hold : ∀ p ∈ before, (fun b => decide (b < W.heap.size)) p.block = true := fun p hp => by simpa using hlt p hp
  have hok : ∀ (j : Nat) (t : TypeId) (r : Value), f.resultTypes[j]? = some t → ((Value.bool true).resultList f.resultTypes.size)[j]? = some r → Value.okWide P W' .any 0 t r := by
    intro j t r h1 h2
    rw [hrt] at h1 h2
    cases j with
    | succ j => simp at h1
    | zero =>
      simp [Value.resultList] at h1 h2
      subst h1 h2
      simp [Value.okWide, htb, Cell.okWide, Cell.ok]
  refine ⟨ds, gs, before, [], before, [], hW, hres _ _ _, hargs _ hold, hvars _, World.keptBut_mono (fun p hp => ⟨hp, Or.inr (by simpa using hp)⟩) (hb.frame (· ∈ before)), fun _ => ?_⟩
  refine ⟨hok, _, _, ([] ++ before) ++ [], ⟨[] ++ before, [], trodAll_append (hargs _ (fun _ _ => rfl)) (hres _ _ _), hvars _, rfl, ?_, ?_⟩, ?_⟩
  · intro b off hp
    have hp' : MemPlace.cell b off ∈ before := by simpa using hp
    rw [hb.frozen (p := ⟨b, off, none⟩) (hlt _ hp')]
    exact hz b off hp'
  · intro ha
    have := hn ha
    simpa using this
  · intro p hp _
    simpa using hp

end reads

end Go.Proofs.Ytnghlmogcbmlfaa
