/- What is directly ahead of what. -/
import Derived.Test.YtnghlmogcbmlfaaRecsC
namespace Go.Proofs.Ytnghlmogcbmlfaa
set_option linter.unusedVariables false
set_option linter.unusedSimpArgs false
set_option linter.unnecessarySimpa false

/-- The places directly ahead of a place. -/
def dirB (l : List Rec) (i : Int) : List Int :=
  (if 0 ≤ lastI (nodeP (rd l i).node) l i.toNat then [lastI (nodeP (rd l i).node) l i.toNat] else []) ++
  (if (rd l i).kind = 4 ∧ 0 ≤ lastI (sentP (rd l i)) l i.toNat then [lastI (sentP (rd l i)) l i.toNat] else [])

theorem dirB_mem {l : List Rec} {i k : Int} (h0 : 0 ≤ i) (h : k ∈ dirB l i) : 0 ≤ k ∧ k < i := by
  have h1 := lastI_lt (nodeP (rd l i).node) l i.toNat
  have h2 := lastI_lt (sentP (rd l i)) l i.toNat
  simp only [dirB, List.mem_append] at h
  rcases h with h | h
  · split at h
    · simp only [List.mem_singleton] at h
      omega
    · simp at h
  · split at h
    · simp only [List.mem_singleton] at h
      omega
    · simp at h

theorem dirB_length (l : List Rec) (i : Int) : (dirB l i).length ≤ 2 := by
  simp only [dirB, List.length_append]
  split <;> split <;> simp

def orRow (a b : List Bool) : List Bool := List.zipWith (fun x y => x || y) a b
def rowStep (rs : List (List Bool)) (own : List Bool) (k : Int) : List Bool := orRow (own.set k.toNat true) (rd rs k)
def rowOf (l : List Rec) (rs : List (List Bool)) (i : Int) : List Bool := (dirB l i).foldl (rowStep rs) (List.replicate l.length false)
def rowsB (l : List Rec) : Nat → List (List Bool)
  | 0 => []
  | n + 1 => rowsB l n ++ [rowOf l (rowsB l n) n]

def markAll (ms : List Bool) (ds : List Int) : List Bool := ds.foldl (fun m d => m.set d.toNat true) ms
def markGo (l : List Rec) : Nat → List Bool → List Bool
  | 0, ms => ms
  | k + 1, ms => markGo l k (if rd ms k = true then markAll ms (dirB l k) else ms)
def pastS (l : List Rec) (i : Int) : List Bool := (markGo l (i.toNat + 1) ((List.replicate l.length false).set i.toNat true)).set i.toNat false

/-- One place is ahead of another. -/
inductive Rch (l : List Rec) : Int → Int → Prop
  | one {i k : Int} (h : k ∈ dirB l i) : Rch l i k
  | more {i j k : Int} (h : j ∈ dirB l i) (t : Rch l j k) : Rch l i k

theorem Rch.lt {l : List Rec} {i k : Int} (h : Rch l i k) (h0 : 0 ≤ i) : 0 ≤ k ∧ k < i := by
  induction h with
  | one h => exact dirB_mem h0 h
  | more h t ih =>
    have h1 := dirB_mem h0 h
    have := ih h1.1
    omega

theorem Rch.trans {l : List Rec} {a b c : Int} (t : Rch l a b) (u : Rch l b c) : Rch l a c := by
  induction t with
  | one g => exact .more g u
  | more g t ih => exact .more g (ih u)

theorem rd_nat {α : Type} [Inhabited α] {l : List α} {n : Nat} (h : n < l.length) : rd l (n : Int) = l[n] := by
  rw [rd_eq (by omega) (by omega)]
  simp

theorem rd_set' {α : Type} [Inhabited α] {l : List α} {n m : Int} {x : α} (h0 : 0 ≤ n) (h1 : n < l.length) (h2 : 0 ≤ m) : rd (l.set n.toNat x) m = if m = n then x else rd l m := by
  unfold rd
  rw [List.getD_eq_getElem?_getD, List.getD_eq_getElem?_getD, List.getElem?_set]
  by_cases h : m = n
  · subst h
    rw [if_pos rfl, if_pos (by omega), if_pos rfl]
    rfl
  · rw [if_neg (by omega), if_neg h]

theorem rd_orRow {a b : List Bool} {m : Int} (h0 : 0 ≤ m) (ha : m < a.length) (hb : m < b.length) : rd (orRow a b) m = (rd a m || rd b m) := by
  unfold orRow
  rw [rd_eq h0 (by simp; omega), List.getElem_zipWith, rd_eq h0 ha, rd_eq h0 hb]

theorem orRow_length {a b : List Bool} (h : a.length = b.length) : (orRow a b).length = a.length := by
  unfold orRow
  simp [h]

theorem fold_rows {n : Nat} {rs : List (List Bool)} {m : Int} (h0 : 0 ≤ m) (hm : m < n) : ∀ (ds : List Int) (own : List Bool), own.length = n → (∀ k ∈ ds, 0 ≤ k ∧ k < n ∧ (rd rs k).length = n) →
    (ds.foldl (rowStep rs) own).length = n ∧ (rd (ds.foldl (rowStep rs) own) m = true ↔ rd own m = true ∨ ∃ k ∈ ds, m = k ∨ rd (rd rs k) m = true) := by
  intro ds
  induction ds with
  | nil => intro own hl _; exact ⟨hl, by simp⟩
  | cons d ds ih =>
    intro own hl hd
    obtain ⟨d0, d1, d2⟩ := hd d (by simp)
    have hl2 : (rowStep rs own d).length = n := by
      unfold rowStep
      rw [orRow_length (by simp [hl, d2])]
      simp [hl]
    obtain ⟨g1, g2⟩ := ih (rowStep rs own d) hl2 (fun k hk => hd k (by simp [hk]))
    refine ⟨g1, ?_⟩
    rw [List.foldl_cons, g2]
    have e : rd (rowStep rs own d) m = true ↔ rd own m = true ∨ (m = d ∨ rd (rd rs d) m = true) := by
      unfold rowStep
      rw [rd_orRow h0 (by simp; omega) (by omega), rd_set' d0 (by omega) h0]
      by_cases h : m = d <;> simp [h]
    rw [e]
    simp only [List.mem_cons]
    constructor
    · rintro ((h | h) | ⟨k, hk, h⟩)
      · exact .inl h
      · exact .inr ⟨d, .inl rfl, h⟩
      · exact .inr ⟨k, .inr hk, h⟩
    · rintro (h | ⟨k, rfl | hk, h⟩)
      · exact .inl (.inl h)
      · exact .inl (.inr h)
      · exact .inr ⟨k, hk, h⟩

theorem rowsB_length (l : List Rec) (n : Nat) : (rowsB l n).length = n := by
  induction n with
  | zero => rfl
  | succ n ih => simp [rowsB, ih]

theorem rowsB_rd (l : List Rec) (n : Nat) (i : Int) (h0 : 0 ≤ i) (h : i < n) : rd (rowsB l n) i = rowOf l (rowsB l i.toNat) i := by
  induction n with
  | zero => omega
  | succ n ih =>
    rw [rowsB]
    by_cases hi : i < n
    · rw [← ih hi]
      unfold rd
      rw [List.getD_eq_getElem?_getD, List.getD_eq_getElem?_getD, List.getElem?_append_left (by rw [rowsB_length]; omega)]
    · have e : i = n := by omega
      subst e
      unfold rd
      rw [List.getD_eq_getElem?_getD, List.getElem?_append_right (by rw [rowsB_length]; omega), rowsB_length, Int.toNat_natCast, Nat.sub_self]
      rfl

theorem rows_reach (l : List Rec) : ∀ (n : Nat), n ≤ l.length → ∀ i : Int, 0 ≤ i → i < n → (rd (rowsB l n) i).length = l.length ∧ ∀ m : Int, 0 ≤ m → m < l.length → (rd (rd (rowsB l n) i) m = true ↔ Rch l i m) := by
  intro n
  induction n with
  | zero => intro _ i h0 h1; omega
  | succ n ih =>
    intro hn i h0 h1
    have hih := ih (by omega)
    rw [rowsB_rd l (n + 1) i h0 h1]
    have hd : ∀ k ∈ dirB l i, 0 ≤ k ∧ k < l.length ∧ (rd (rowsB l i.toNat) k).length = l.length ∧ ∀ m : Int, 0 ≤ m → m < l.length → (rd (rd (rowsB l i.toNat) k) m = true ↔ Rch l k m) := by
      intro k hk
      obtain ⟨k0, k1⟩ := dirB_mem h0 hk
      have hh := hih k k0 (by omega)
      rw [rowsB_rd l n k k0 (by omega), ← rowsB_rd l i.toNat k k0 (by omega)] at hh
      exact ⟨k0, by omega, hh⟩
    refine ⟨?_, fun m m0 m1 => ?_⟩
    · exact (fold_rows (m := 0) (n := l.length) (rs := rowsB l i.toNat) (by omega) (by omega) (dirB l i) (List.replicate l.length false) (by simp) (fun k hk => ⟨(hd k hk).1, (hd k hk).2.1, (hd k hk).2.2.1⟩)).1
    · have := (fold_rows (n := l.length) (rs := rowsB l i.toNat) m0 (by omega) (dirB l i) (List.replicate l.length false) (by simp) (fun k hk => ⟨(hd k hk).1, (hd k hk).2.1, (hd k hk).2.2.1⟩)).2
      unfold rowOf
      rw [this, rd_eq m0 (by simp; omega)]
      simp only [List.getElem_replicate, Bool.false_eq_true, false_or]
      constructor
      · rintro ⟨k, hk, rfl | h⟩
        · exact .one hk
        · exact .more hk (((hd k hk).2.2.2 m m0 m1).1 h)
      · intro h
        cases h with
        | one h => exact ⟨m, h, .inl rfl⟩
        | more h t => exact ⟨_, h, .inr (((hd _ h).2.2.2 m m0 m1).2 t)⟩

theorem markAll_spec {n : Nat} {m : Int} (h0 : 0 ≤ m) : ∀ (ds : List Int) (ms : List Bool), ms.length = n → (∀ k ∈ ds, 0 ≤ k ∧ k < n) → (markAll ms ds).length = n ∧ (rd (markAll ms ds) m = true ↔ rd ms m = true ∨ m ∈ ds) := by
  intro ds
  induction ds with
  | nil => intro ms hl _; exact ⟨hl, by simp [markAll]⟩
  | cons d ds ih =>
    intro ms hl hd
    obtain ⟨d0, d1⟩ := hd d (by simp)
    obtain ⟨g1, g2⟩ := ih (ms.set d.toNat true) (by simp [hl]) (fun k hk => hd k (by simp [hk]))
    have e : markAll ms (d :: ds) = markAll (ms.set d.toNat true) ds := rfl
    rw [e]
    refine ⟨g1, ?_⟩
    rw [g2, rd_set' d0 (by omega) h0]
    by_cases h : m = d <;> simp [h]

theorem markGo_spec (l : List Rec) (i : Int) (h0 : 0 ≤ i) (h1 : i < l.length) : ∀ (k : Nat) (ms : List Bool), ms.length = l.length → (k : Int) ≤ i + 1 → rd ms i = true → (∀ m : Int, 0 ≤ m → rd ms m = true → m = i ∨ Rch l i m) → (∀ j : Int, (k : Int) ≤ j → rd ms j = true → ∀ d ∈ dirB l j, rd ms d = true) →
    (markGo l k ms).length = l.length ∧ rd (markGo l k ms) i = true ∧ (∀ m : Int, 0 ≤ m → rd (markGo l k ms) m = true → m = i ∨ Rch l i m) ∧ (∀ j : Int, 0 ≤ j → rd (markGo l k ms) j = true → ∀ d ∈ dirB l j, rd (markGo l k ms) d = true) := by
  intro k
  induction k with
  | zero => intro ms hl _ hi ha hb; exact ⟨hl, hi, ha, fun j hj => hb j (by omega)⟩
  | succ k ih =>
    intro ms hl hk hi ha hb
    rw [markGo]
    by_cases hm : rd ms k = true
    · rw [if_pos hm]
      have hd : ∀ d ∈ dirB l k, 0 ≤ d ∧ d < l.length := fun d hd => by
        have := dirB_mem (by omega) hd
        omega
      have sp : ∀ m : Int, 0 ≤ m → (rd (markAll ms (dirB l k)) m = true ↔ rd ms m = true ∨ m ∈ dirB l k) := fun m m0 => (markAll_spec m0 (dirB l k) ms hl hd).2
      refine ih _ (markAll_spec h0 (dirB l k) ms hl hd).1 (by omega) ((sp i h0).2 (.inl hi)) (fun m m0 h => ?_) (fun j hj h d hd2 => ?_)
      · rcases (sp m m0).1 h with h | h
        · exact ha m m0 h
        · right
          rcases ha k (by omega) hm with e | e
          · rw [e] at h
            exact .one h
          · exact e.trans (.one h)
      · have d0 := dirB_mem (by omega) hd2
        refine (sp d d0.1).2 ?_
        rcases (sp j (by omega)).1 h with h | h
        · by_cases hjk : j = k
          · subst hjk
            exact .inr hd2
          · exact .inl (hb j (by omega) h d hd2)
        · have := dirB_mem (by omega) h
          omega
    · rw [if_neg hm]
      refine ih ms hl (by omega) hi ha (fun j hj h d hd => ?_)
      by_cases hjk : j = k
      · subst hjk
        exact absurd h hm
      · exact hb j (by omega) h d hd

theorem pastS_reach (l : List Rec) (i : Int) (h0 : 0 ≤ i) (h1 : i < l.length) : (pastS l i).length = l.length ∧ ∀ m : Int, 0 ≤ m → m < l.length → (rd (pastS l i) m = true ↔ Rch l i m) := by
  have hinit : ∀ m : Int, 0 ≤ m → (rd ((List.replicate l.length false).set i.toNat true) m = true ↔ m = i) := by
    intro m m0
    rw [rd_set' h0 (by simp; omega) m0]
    by_cases h : m = i
    · simp [h]
    · simp only [if_neg h, h, iff_false]
      unfold rd
      rw [List.getD_eq_getElem?_getD, List.getElem?_replicate]
      by_cases h9 : m.toNat < l.length <;> simp [h9]
  obtain ⟨g1, g2, g3, g4⟩ := markGo_spec l i h0 h1 (i.toNat + 1) ((List.replicate l.length false).set i.toNat true) (by simp) (by omega) ((hinit i h0).2 rfl) (fun m m0 h => .inl ((hinit m m0).1 h)) (fun j hj h d hd => by
    have := (hinit j (by omega)).1 h
    omega)
  refine ⟨by simp [pastS, g1], fun m m0 m1 => ?_⟩
  unfold pastS
  rw [rd_set' h0 (by omega) m0]
  have closed : ∀ {a : Int}, Rch l a m → 0 ≤ a → rd (markGo l (i.toNat + 1) ((List.replicate l.length false).set i.toNat true)) a = true → rd (markGo l (i.toNat + 1) ((List.replicate l.length false).set i.toNat true)) m = true := by
    intro a t
    induction t with
    | one g => intro a0 h; exact g4 _ a0 h _ g
    | more g t ih => intro a0 h; exact ih m0 m1 (dirB_mem a0 g).1 (g4 _ a0 h _ g)
  by_cases h : m = i
  · subst h
    simp only [if_true, Bool.false_eq_true, false_iff]
    intro t
    have := t.lt h0
    omega
  · rw [if_neg h]
    constructor
    · intro hm
      exact (g3 m m0 hm).resolve_left h
    · intro t
      exact closed t h0 g2

theorem past_same (l : List Rec) (i : Int) (h0 : 0 ≤ i) (h1 : i < l.length) : rd (rowsB l l.length) i = pastS l i := by
  obtain ⟨a1, a2⟩ := rows_reach l l.length (Nat.le_refl _) i h0 h1
  obtain ⟨b1, b2⟩ := pastS_reach l i h0 h1
  apply List.ext_getElem (by omega)
  intro n hn1 hn2
  have e := (a2 n (by omega) (by omega)).trans (b2 n (by omega) (by omega)).symm
  rw [rd_nat hn1, rd_nat hn2] at e
  exact Bool.eq_iff_iff.2 e

def conDir : Con := ⟨[.imm .rcd, .v], .own .int, fun as => match as with
  | [.sl .rcd l, .int .i64 i] => guardP (0 ≤ i ∧ i < l.length) (some (.own .int (dirB l i), []))
  | _ => none⟩

def conIsSentFor : Con := ⟨[.v], .fn, fun as => match as with
  | [.agg [.int .i64 a, .int .i64 b, .int .i64 c, .int .i64 d, .int .i64 e, .int .i64 f]] => some (.fn 201 [.ip [.int .i64 a, .int .i64 b, .int .i64 c, .int .i64 d, .int .i64 e, .int .i64 f] 0], [])
  | _ => none⟩

def conPasts : Con := ⟨[.imm .rcd], .own .bools, fun as => match as with
  | [.sl .rcd l] => guardP (l.length ≤ 400 ∧ True) (some (.own .bools (rowsB l l.length), []))
  | _ => none⟩

def conPast : Con := ⟨[.imm .rcd, .v], .own .bool, fun as => match as with
  | [.sl .rcd l, .int .i64 i] => guardP (0 ≤ i ∧ i < l.length ∧ l.length ≤ 400) (some (.own .bool (pastS l i), []))
  | _ => none⟩

-- loop.example/g00678/impl.isSentFor hows []
def af148 : AF := ⟨4, [.t 2],
  .seq (.reg [⟨some 1, .box (.t 0), none⟩,
    ⟨some 2, .mv (.c (.junk)), none⟩])
  (.seq (.reg [⟨some 3, .mf 201 [(.t 1)], none⟩,
    ⟨some 2, .mv (.t 3), none⟩])
  (.ret))⟩

set_option maxHeartbeats 4000000 in
theorem does148 (as : List AV) (hok : ok 64 as) : Does tbNone af148 conIsSentFor as := by
  cases h : (conIsSentFor).run as with
  | none => exact does_none h
  | some out =>
    have h' := h
    simp only [conIsSentFor] at h'
    split at h'
    · rename_i a b c d e f
      simp only [Option.some.injEq] at h'
      subst h'
      have hmo : (most : Int) = 1099511627776 := rfl
      have hml : (maxLen : Int) = 9223372036854775807 := rfl
      with_reducible refine does_by h fun Q hQ => ?_
      clear h
      dsimp only [af148, conIsSentFor, go_sem, Nat.reduceAdd, Nat.reduceMul, Nat.reduceSub, Nat.reduceBEq, Nat.reduceLeDiff, Nat.reduceEqDiff, ↓dreduceIte, toG]
      repeat' first
        | with_reducible refine kon_seq ?_
        | with_reducible refine kon_nil ?_
        | with_reducible refine kon_any ?_ ?_
        | with_reducible exact kon_any_nil
        | with_reducible refine kon_skip ?_
        | with_reducible refine kon_block ?_
        | with_reducible refine kon_ret ?_
        | with_reducible refine kon_exit ?_
        | with_reducible refine kon_past_ret ?_
        | with_reducible refine kon_past_exit ?_
        | with_reducible refine kon_blk_ret ?_
        | with_reducible refine kon_blk_end ?_
        | with_reducible refine kon_blk_exit ?_
        | (with_reducible refine kon_blk_past ?_ ?_
           · decide)
        | with_reducible refine loop_exit ?_
        | with_reducible refine loop_ret ?_
        | with_reducible refine mid_exit ?_
        | with_reducible refine mid_ret ?_
        | ((first | with_reducible refine kon_bin fun R hR => ?_ | with_reducible refine kon_conv fun R hR => ?_)
           dsimp only [go_sem, Nat.reduceAdd, Nat.reduceMul, Nat.reduceSub, Nat.reduceBEq, Nat.reduceLeDiff, Nat.reduceEqDiff, ↓dreduceIte, toG]
           try simp (disch := first | omega | (simp only [List.length_set, List.length_append, List.length_cons, List.length_nil, List.length_replicate]; omega)) only [guardP_T, guardP_pos, iteN, rd_set, List.set_set, List.length_set, eta_fact, eta_rumor, eta_doubt, eta_item, eta_rec, eta_due, look, look0, rd_toNat, wrap64, Int.toNat_natCast, Nat.zero_add, List.take_length, List.drop_zero, and_self, setB_len, true_and, and_true]
           with_reducible refine hR _ ?_
           clear hR R)
        | (with_reducible refine kon_ins fun R hR => ?_
           dsimp only [go_sem, Nat.reduceAdd, Nat.reduceMul, Nat.reduceSub, Nat.reduceBEq, Nat.reduceLeDiff, Nat.reduceEqDiff, ↓dreduceIte, toG]
           first
             | with_reducible refine hR _ ?_
             | (simp (disch := first | omega | (simp only [List.length_set, List.length_append, List.length_cons, List.length_nil, List.length_replicate]; omega)) only [guardP_T, guardP_pos, iteN, rd_set, List.set_set, List.length_set, eta_fact, eta_rumor, eta_doubt, eta_item, eta_rec, eta_due, look, look0, rd_toNat, wrap64, Int.toNat_natCast, Nat.zero_add, List.take_length, List.drop_zero, and_self, setB_len, true_and, and_true]
                try dsimp only [go_sem, Nat.reduceAdd, Nat.reduceMul, Nat.reduceSub, Nat.reduceBEq, Nat.reduceLeDiff, Nat.reduceEqDiff, ↓dreduceIte, toG]
                try simp (disch := first | omega | (simp only [List.length_set, List.length_append, List.length_cons, List.length_nil, List.length_replicate]; omega)) only [guardP_T, guardP_pos, iteN, rd_set, List.set_set, List.length_set, eta_fact, eta_rumor, eta_doubt, eta_item, eta_rec, eta_due, look, look0, rd_toNat, wrap64, Int.toNat_natCast, Nat.zero_add, List.take_length, List.drop_zero, and_self, setB_len, true_and, and_true]
                with_reducible refine hR _ ?_)
           clear hR R)
        | (with_reducible refine kon_g_run ?_ ?_
           · dsimp only [nth] <;> with_reducible rfl)
        | (with_reducible refine kon_g_skip ?_ ?_
           · dsimp only [nth, not_t', not_f'] <;> with_reducible rfl
           dsimp only [go_sem])
        | (with_reducible refine kon_g_undef ?_ ?_
           · dsimp only [nth] <;> with_reducible rfl
           dsimp only [go_sem])
        | (with_reducible refine kon_g fun R hR => ?_
           dsimp only [go_sem, Nat.reduceAdd, Nat.reduceMul, Nat.reduceSub, Nat.reduceBEq, Nat.reduceLeDiff, Nat.reduceEqDiff, ↓dreduceIte, toG]
           split <;> (rename_i hb; with_reducible refine hR _ ?_; clear hR R; try simp only [hb]; try simp only [decide_eq_true_eq, decide_eq_false_iff_not, beq_iff_eq, beq_eq_false_iff_ne, bne_iff_ne, bne_eq_false_iff_eq, Bool.not_eq_true, Bool.not_eq_false, Bool.not_eq_eq_eq_not, Bool.not_true, Bool.not_false, ne_eq, Int.not_lt, Int.not_le, eq_self, not_true_eq_false, not_false_eq_true, decide_true, decide_false, Bool.and_eq_true, Bool.or_eq_true, Bool.and_eq_false_iff, Bool.or_eq_false_iff, gt_iff_lt, ge_iff_le, Bool.false_eq_true, Bool.true_eq_false, reduceCtorEq, or_false, false_or, or_true, true_or, false_and, and_false] at hb; try (exfalso; omega)))
        | (with_reducible refine kon_cond fun R1 R2 h1 h2 => ?_
           dsimp only [go_sem]
           first
             | (with_reducible refine h1 ?_; clear h1 h2 R1 R2)
             | (with_reducible refine h2 ?_; clear h1 h2 R1 R2)
             | ((split <;> rename_i hb <;> first
                 | (with_reducible refine h1 ?_; clear h1 h2 R1 R2; try simp only [hb])
                 | (with_reducible refine h2 ?_; clear h1 h2 R1 R2; try simp only [hb])) <;> (try simp only [decide_eq_true_eq, decide_eq_false_iff_not, beq_iff_eq, beq_eq_false_iff_ne, bne_iff_ne, bne_eq_false_iff_eq, Bool.not_eq_true, Bool.not_eq_false, Bool.not_eq_eq_eq_not, Bool.not_true, Bool.not_false, ne_eq, Int.not_lt, Int.not_le, eq_self, not_true_eq_false, not_false_eq_true, decide_true, decide_false, Bool.and_eq_true, Bool.or_eq_true, Bool.and_eq_false_iff, Bool.or_eq_false_iff, gt_iff_lt, ge_iff_le, Bool.false_eq_true, Bool.true_eq_false, reduceCtorEq, or_false, false_or, or_true, true_or, false_and, and_false] at hb; try (exfalso; omega))))
      all_goals first
        | (dsimp only [kon]
           with_reducible refine hQ _ _ _ ?_
           dsimp only [kon, endQ, af148, conIsSentFor, go_sem, Nat.reduceAdd, Nat.reduceMul, Nat.reduceSub, Nat.reduceBEq, Nat.reduceLeDiff, Nat.reduceEqDiff, ↓dreduceIte, toG]
           try simp (disch := first | omega | (simp only [List.length_set, List.length_append, List.length_cons, List.length_nil, List.length_replicate]; omega)) only [guardP_T, guardP_pos, iteN, rd_set, List.set_set, List.length_set, eta_fact, eta_rumor, eta_doubt, eta_item, eta_rec, eta_due, look, look0, rd_toNat, wrap64, Int.toNat_natCast, Nat.zero_add, List.take_length, List.drop_zero, and_self, setB_len, true_and, and_true]
           try dsimp only [go_sem, Nat.reduceAdd, Nat.reduceMul, Nat.reduceSub, Nat.reduceBEq, Nat.reduceLeDiff, Nat.reduceEqDiff, ↓dreduceIte, toG])
        | skip
      all_goals try first
        | omega
        | (simp; done)
        | (simp; omega)
      all_goals rfl
    · simp at h'

def tb73 : Tab := fun f => match f with
  | 146 => some conLastOf
  | 148 => some conIsSentFor
  | _ => none

theorem tb73_146 : tb73 146 = some conLastOf := rfl
theorem tb73_148 : tb73 148 = some conIsSentFor := rfl

-- loop.example/g00678/impl.directly hows []
def af73 : AF := ⟨41, [.t 4],
  .seq (.reg [⟨some 4, .mv (.c (.nil)), none⟩])
  (.seq (.reg [⟨some 9, .mv (.t 0), none⟩,
    ⟨some 10, .mv (.t 1), none⟩,
    ⟨some 11, .ia .rcd (.t 9) (.t 10), none⟩,
    ⟨some 12, .ld true 6 (.t 11), none⟩,
    ⟨some 13, .slit .int [], none⟩,
    ⟨some 5, .box (.c (.agg [.int .i64 0, .int .i64 0, .int .i64 0, .int .i64 0, .int .i64 0, .int .i64 0])), none⟩,
    ⟨none, .st 6 (.t 5) (.t 12), none⟩,
    ⟨some 6, .mv (.t 13), none⟩])
  (.seq (.seq (.reg [⟨some 14, .mv (.t 0), none⟩,
    ⟨some 15, .mv (.t 1), none⟩,
    ⟨some 16, .mf 147 [(.t 5)], none⟩,
    ⟨some 17, .call 146 [(.t 14), (.t 15), (.t 16)], none⟩,
    ⟨some 7, .mv (.t 17), none⟩])
  (.seq (.reg [⟨some 18, .mv (.t 7), none⟩,
    ⟨some 19, .bin .geq (.t 18) (.i 0), none⟩])
  (.cond (.t 19)
    (.reg [⟨some 20, .mv (.t 6), none⟩,
      ⟨some 21, .mv (.t 7), none⟩,
      ⟨some 22, .slit .int [(.t 21)], none⟩,
      ⟨some 23, .app .int (.t 20) (.t 22), none⟩,
      ⟨some 6, .mv (.t 23), none⟩])
    (.skip))))
  (.seq (.seq (.reg [⟨some 24, .mv (.t 0), none⟩,
    ⟨some 25, .mv (.t 1), none⟩,
    ⟨some 26, .ld true 6 (.t 5), none⟩,
    ⟨some 27, .call 148 [(.t 26)], none⟩,
    ⟨some 28, .call 146 [(.t 24), (.t 25), (.t 27)], none⟩,
    ⟨some 8, .mv (.t 28), none⟩])
  (.seq (.reg [⟨some 29, .fa 2 (.t 5), none⟩,
    ⟨some 30, .ld false 1 (.t 29), none⟩,
    ⟨some 31, .bin .eql (.t 30) (.i 4), none⟩,
    ⟨some 32, .mv (.t 31), none⟩,
    ⟨some 33, .mv (.t 8), some (32, true)⟩,
    ⟨some 34, .bin .geq (.t 33) (.i 0), some (32, true)⟩,
    ⟨some 35, .pick (.t 32) (.t 34) (.b false), none⟩])
  (.cond (.t 35)
    (.reg [⟨some 36, .mv (.t 6), none⟩,
      ⟨some 37, .mv (.t 8), none⟩,
      ⟨some 38, .slit .int [(.t 37)], none⟩,
      ⟨some 39, .app .int (.t 36) (.t 38), none⟩,
      ⟨some 6, .mv (.t 39), none⟩])
    (.skip))))
  (.seq (.reg [⟨some 40, .mv (.t 6), none⟩,
    ⟨some 4, .mv (.t 40), none⟩])
  (.ret)))))⟩

set_option maxHeartbeats 4000000 in
theorem does73 (as : List AV) (hok : ok 64 as) : Does tb73 af73 conDir as := by
  cases h : (conDir).run as with
  | none => exact does_none h
  | some out =>
    have h' := h
    simp only [conDir] at h'
    split at h'
    · rename_i l i
      by_cases hp : 0 ≤ i ∧ i < l.length
      case neg => simp [guardP, hp] at h'
      rw [guardP_pos hp] at h'
      obtain ⟨hp1, hp2⟩ := hp
      simp only [ok] at hok
      obtain ⟨⟨hlen, _⟩, _⟩ := hok
      simp only [Option.some.injEq] at h'
      subst h'
      have hmo : (most : Int) = 1099511627776 := rfl
      have hml : (maxLen : Int) = 9223372036854775807 := rfl
      with_reducible refine does_by h fun Q hQ => ?_
      clear h
      dsimp only [af73, conDir, go_sem, Nat.reduceAdd, Nat.reduceMul, Nat.reduceSub, Nat.reduceBEq, Nat.reduceLeDiff, Nat.reduceEqDiff, ↓dreduceIte, toG, semR_143, semR_214, semR_147, semR_201, tb73_146, tb73_148, conIsSentFor, conLastOf]
      repeat' first
        | with_reducible refine kon_seq ?_
        | with_reducible refine kon_nil ?_
        | with_reducible refine kon_any ?_ ?_
        | with_reducible exact kon_any_nil
        | with_reducible refine kon_skip ?_
        | with_reducible refine kon_block ?_
        | with_reducible refine kon_ret ?_
        | with_reducible refine kon_exit ?_
        | with_reducible refine kon_past_ret ?_
        | with_reducible refine kon_past_exit ?_
        | with_reducible refine kon_blk_ret ?_
        | with_reducible refine kon_blk_end ?_
        | with_reducible refine kon_blk_exit ?_
        | (with_reducible refine kon_blk_past ?_ ?_
           · decide)
        | with_reducible refine loop_exit ?_
        | with_reducible refine loop_ret ?_
        | with_reducible refine mid_exit ?_
        | with_reducible refine mid_ret ?_
        | ((first | with_reducible refine kon_bin fun R hR => ?_ | with_reducible refine kon_conv fun R hR => ?_)
           dsimp only [go_sem, Nat.reduceAdd, Nat.reduceMul, Nat.reduceSub, Nat.reduceBEq, Nat.reduceLeDiff, Nat.reduceEqDiff, ↓dreduceIte, toG, semR_143, semR_214, semR_147, semR_201, tb73_146, tb73_148, conIsSentFor, conLastOf]
           try simp (disch := first | omega | (simp only [List.length_set, List.length_append, List.length_cons, List.length_nil, List.length_replicate]; omega)) only [guardP_T, guardP_pos, iteN, rd_set, List.set_set, List.length_set, eta_fact, eta_rumor, eta_doubt, eta_item, eta_rec, eta_due, look, look0, rd_toNat, wrap64, Int.toNat_natCast, Nat.zero_add, List.take_length, List.drop_zero, and_self, setB_len, true_and, and_true]
           with_reducible refine hR _ ?_
           clear hR R)
        | (with_reducible refine kon_ins fun R hR => ?_
           dsimp only [go_sem, Nat.reduceAdd, Nat.reduceMul, Nat.reduceSub, Nat.reduceBEq, Nat.reduceLeDiff, Nat.reduceEqDiff, ↓dreduceIte, toG, semR_143, semR_214, semR_147, semR_201, tb73_146, tb73_148, conIsSentFor, conLastOf]
           first
             | with_reducible refine hR _ ?_
             | (simp (disch := first | omega | (simp only [List.length_set, List.length_append, List.length_cons, List.length_nil, List.length_replicate]; omega)) only [guardP_T, guardP_pos, iteN, rd_set, List.set_set, List.length_set, eta_fact, eta_rumor, eta_doubt, eta_item, eta_rec, eta_due, look, look0, rd_toNat, wrap64, Int.toNat_natCast, Nat.zero_add, List.take_length, List.drop_zero, and_self, setB_len, true_and, and_true]
                try dsimp only [go_sem, Nat.reduceAdd, Nat.reduceMul, Nat.reduceSub, Nat.reduceBEq, Nat.reduceLeDiff, Nat.reduceEqDiff, ↓dreduceIte, toG, semR_143, semR_214, semR_147, semR_201, tb73_146, tb73_148, conIsSentFor, conLastOf]
                try simp (disch := first | omega | (simp only [List.length_set, List.length_append, List.length_cons, List.length_nil, List.length_replicate]; omega)) only [guardP_T, guardP_pos, iteN, rd_set, List.set_set, List.length_set, eta_fact, eta_rumor, eta_doubt, eta_item, eta_rec, eta_due, look, look0, rd_toNat, wrap64, Int.toNat_natCast, Nat.zero_add, List.take_length, List.drop_zero, and_self, setB_len, true_and, and_true]
                with_reducible refine hR _ ?_)
           clear hR R)
        | (with_reducible refine kon_g_run ?_ ?_
           · dsimp only [nth] <;> with_reducible rfl)
        | (with_reducible refine kon_g_skip ?_ ?_
           · dsimp only [nth, not_t', not_f'] <;> with_reducible rfl
           dsimp only [go_sem])
        | (with_reducible refine kon_g_undef ?_ ?_
           · dsimp only [nth] <;> with_reducible rfl
           dsimp only [go_sem])
        | (with_reducible refine kon_g fun R hR => ?_
           dsimp only [go_sem, Nat.reduceAdd, Nat.reduceMul, Nat.reduceSub, Nat.reduceBEq, Nat.reduceLeDiff, Nat.reduceEqDiff, ↓dreduceIte, toG, semR_143, semR_214, semR_147, semR_201, tb73_146, tb73_148, conIsSentFor, conLastOf]
           split <;> (rename_i hb; with_reducible refine hR _ ?_; clear hR R; try simp only [hb]; try simp only [decide_eq_true_eq, decide_eq_false_iff_not, beq_iff_eq, beq_eq_false_iff_ne, bne_iff_ne, bne_eq_false_iff_eq, Bool.not_eq_true, Bool.not_eq_false, Bool.not_eq_eq_eq_not, Bool.not_true, Bool.not_false, ne_eq, Int.not_lt, Int.not_le, eq_self, not_true_eq_false, not_false_eq_true, decide_true, decide_false, Bool.and_eq_true, Bool.or_eq_true, Bool.and_eq_false_iff, Bool.or_eq_false_iff, gt_iff_lt, ge_iff_le, Bool.false_eq_true, Bool.true_eq_false, reduceCtorEq, or_false, false_or, or_true, true_or, false_and, and_false] at hb; try (exfalso; omega)))
        | (with_reducible refine kon_cond fun R1 R2 h1 h2 => ?_
           dsimp only [go_sem]
           first
             | (with_reducible refine h1 ?_; clear h1 h2 R1 R2)
             | (with_reducible refine h2 ?_; clear h1 h2 R1 R2)
             | ((split <;> rename_i hb <;> first
                 | (with_reducible refine h1 ?_; clear h1 h2 R1 R2; try simp only [hb])
                 | (with_reducible refine h2 ?_; clear h1 h2 R1 R2; try simp only [hb])) <;> (try simp only [decide_eq_true_eq, decide_eq_false_iff_not, beq_iff_eq, beq_eq_false_iff_ne, bne_iff_ne, bne_eq_false_iff_eq, Bool.not_eq_true, Bool.not_eq_false, Bool.not_eq_eq_eq_not, Bool.not_true, Bool.not_false, ne_eq, Int.not_lt, Int.not_le, eq_self, not_true_eq_false, not_false_eq_true, decide_true, decide_false, Bool.and_eq_true, Bool.or_eq_true, Bool.and_eq_false_iff, Bool.or_eq_false_iff, gt_iff_lt, ge_iff_le, Bool.false_eq_true, Bool.true_eq_false, reduceCtorEq, or_false, false_or, or_true, true_or, false_and, and_false] at hb; try (exfalso; omega))))
      all_goals first
        | (dsimp only [kon]
           with_reducible refine hQ _ _ _ ?_
           dsimp only [kon, endQ, af73, conDir, go_sem, Nat.reduceAdd, Nat.reduceMul, Nat.reduceSub, Nat.reduceBEq, Nat.reduceLeDiff, Nat.reduceEqDiff, ↓dreduceIte, toG, semR_143, semR_214, semR_147, semR_201, tb73_146, tb73_148, conIsSentFor, conLastOf]
           try simp (disch := first | omega | (simp only [List.length_set, List.length_append, List.length_cons, List.length_nil, List.length_replicate]; omega)) only [guardP_T, guardP_pos, iteN, rd_set, List.set_set, List.length_set, eta_fact, eta_rumor, eta_doubt, eta_item, eta_rec, eta_due, look, look0, rd_toNat, wrap64, Int.toNat_natCast, Nat.zero_add, List.take_length, List.drop_zero, and_self, setB_len, true_and, and_true]
           try dsimp only [go_sem, Nat.reduceAdd, Nat.reduceMul, Nat.reduceSub, Nat.reduceBEq, Nat.reduceLeDiff, Nat.reduceEqDiff, ↓dreduceIte, toG, semR_143, semR_214, semR_147, semR_201, tb73_146, tb73_148, conIsSentFor, conLastOf])
        | skip
      all_goals try first
        | omega
        | (simp; done)
        | (simp; omega)
      all_goals (simp_all [dirB] <;> (first | omega | (intros; omega)))
    · simp at h'

-- loop.example/g00678/spec.l15Direct hows [(5, [.any, .any, .any, .any, .any, .any, .any, .any, .any, .any, .any], []), (10, [.any, .any, .any, .any, .any, .any, .any, .any, .any, .any, .any, .any, .any, .any, .any, .any, .any, .any, .any, .any, .any, .any, .any, .any, .any, .any, .any, .any, .any, .any, .any, .any, .any, .any, .any, .any, .any, .any, .any, .any, .any, .any, .any, .any, .any], [])]
def lp144_0 : AC := .seq (.seq (.reg [⟨some 11, .mv (.t 6), none⟩,
        ⟨some 12, .bin .geq (.t 11) (.i 0), none⟩])
      (.cond (.t 12)
        (.skip)
        (.exit 0)))
      (.seq (.block 1 (.seq (.reg [⟨some 15, .mv (.t 0), none⟩,
          ⟨some 16, .mv (.t 6), none⟩,
          ⟨some 17, .ia .rcd (.t 15) (.t 16), none⟩,
          ⟨some 18, .fa 1 (.t 17), none⟩,
          ⟨some 19, .ld false 1 (.t 18), none⟩,
          ⟨some 20, .mv (.t 0), none⟩,
          ⟨some 21, .mv (.t 1), none⟩,
          ⟨some 22, .ia .rcd (.t 20) (.t 21), none⟩,
          ⟨some 23, .fa 1 (.t 22), none⟩,
          ⟨some 24, .ld false 1 (.t 23), none⟩,
          ⟨some 25, .bin .eql (.t 19) (.t 24), none⟩])
        (.cond (.t 25)
          (.seq (.reg [⟨some 26, .mv (.t 5), none⟩,
            ⟨some 27, .mv (.t 6), none⟩,
            ⟨some 28, .slit .int [(.t 27)], none⟩,
            ⟨some 29, .app .int (.t 26) (.t 28), none⟩,
            ⟨some 5, .mv (.t 29), none⟩])
          (.exit 0))
          (.skip))))
      (.reg [⟨some 13, .mv (.t 6), none⟩,
        ⟨some 14, .bin .sub (.t 13) (.i 1), none⟩,
        ⟨some 6, .mv (.t 14), none⟩]))
def lp144_1 : AC := .seq (.seq (.reg [⟨some 32, .mv (.t 7), none⟩,
        ⟨some 33, .bin .geq (.t 32) (.i 0), none⟩,
        ⟨some 34, .mv (.t 33), none⟩,
        ⟨some 35, .mv (.t 0), some (34, true)⟩,
        ⟨some 36, .mv (.t 1), some (34, true)⟩,
        ⟨some 37, .ia .rcd (.t 35) (.t 36), some (34, true)⟩,
        ⟨some 38, .fa 2 (.t 37), some (34, true)⟩,
        ⟨some 39, .ld false 1 (.t 38), some (34, true)⟩,
        ⟨some 40, .bin .eql (.t 39) (.i 4), some (34, true)⟩,
        ⟨some 41, .pick (.t 34) (.t 40) (.b false), none⟩])
      (.cond (.t 41)
        (.skip)
        (.exit 2)))
      (.seq (.block 3 (.seq (.reg [⟨some 44, .mv (.t 0), none⟩,
          ⟨some 45, .mv (.t 7), none⟩,
          ⟨some 46, .ia .rcd (.t 44) (.t 45), none⟩,
          ⟨some 47, .fa 2 (.t 46), none⟩,
          ⟨some 48, .ld false 1 (.t 47), none⟩,
          ⟨some 49, .bin .eql (.t 48) (.i 3), none⟩,
          ⟨some 50, .mv (.t 49), none⟩,
          ⟨some 51, .mv (.t 0), some (50, true)⟩,
          ⟨some 52, .mv (.t 7), some (50, true)⟩,
          ⟨some 53, .ia .rcd (.t 51) (.t 52), some (50, true)⟩,
          ⟨some 54, .fa 3 (.t 53), some (50, true)⟩,
          ⟨some 55, .ld false 1 (.t 54), some (50, true)⟩,
          ⟨some 56, .mv (.t 0), some (50, true)⟩,
          ⟨some 57, .mv (.t 1), some (50, true)⟩,
          ⟨some 58, .ia .rcd (.t 56) (.t 57), some (50, true)⟩,
          ⟨some 59, .fa 3 (.t 58), some (50, true)⟩,
          ⟨some 60, .ld false 1 (.t 59), some (50, true)⟩,
          ⟨some 61, .bin .eql (.t 55) (.t 60), some (50, true)⟩,
          ⟨some 62, .pick (.t 50) (.t 61) (.b false), none⟩,
          ⟨some 63, .mv (.t 62), none⟩,
          ⟨some 64, .mv (.t 0), some (63, true)⟩,
          ⟨some 65, .mv (.t 7), some (63, true)⟩,
          ⟨some 66, .ia .rcd (.t 64) (.t 65), some (63, true)⟩,
          ⟨some 67, .fa 1 (.t 66), some (63, true)⟩,
          ⟨some 68, .ld false 1 (.t 67), some (63, true)⟩,
          ⟨some 69, .mv (.t 0), some (63, true)⟩,
          ⟨some 70, .mv (.t 1), some (63, true)⟩,
          ⟨some 71, .ia .rcd (.t 69) (.t 70), some (63, true)⟩,
          ⟨some 72, .fa 4 (.t 71), some (63, true)⟩,
          ⟨some 73, .ld false 1 (.t 72), some (63, true)⟩,
          ⟨some 74, .bin .eql (.t 68) (.t 73), some (63, true)⟩,
          ⟨some 75, .pick (.t 63) (.t 74) (.b false), none⟩,
          ⟨some 76, .mv (.t 75), none⟩,
          ⟨some 77, .mv (.t 0), some (76, true)⟩,
          ⟨some 78, .mv (.t 7), some (76, true)⟩,
          ⟨some 79, .ia .rcd (.t 77) (.t 78), some (76, true)⟩,
          ⟨some 80, .fa 4 (.t 79), some (76, true)⟩,
          ⟨some 81, .ld false 1 (.t 80), some (76, true)⟩,
          ⟨some 82, .mv (.t 0), some (76, true)⟩,
          ⟨some 83, .mv (.t 1), some (76, true)⟩,
          ⟨some 84, .ia .rcd (.t 82) (.t 83), some (76, true)⟩,
          ⟨some 85, .fa 1 (.t 84), some (76, true)⟩,
          ⟨some 86, .ld false 1 (.t 85), some (76, true)⟩,
          ⟨some 87, .bin .eql (.t 81) (.t 86), some (76, true)⟩,
          ⟨some 88, .pick (.t 76) (.t 87) (.b false), none⟩])
        (.cond (.t 88)
          (.seq (.reg [⟨some 89, .mv (.t 5), none⟩,
            ⟨some 90, .mv (.t 7), none⟩,
            ⟨some 91, .slit .int [(.t 90)], none⟩,
            ⟨some 92, .app .int (.t 89) (.t 91), none⟩,
            ⟨some 5, .mv (.t 92), none⟩])
          (.exit 2))
          (.skip))))
      (.reg [⟨some 42, .mv (.t 7), none⟩,
        ⟨some 43, .bin .sub (.t 42) (.i 1), none⟩,
        ⟨some 7, .mv (.t 43), none⟩]))
def af144 : AF := ⟨94, [.t 4],
  .seq (.reg [⟨some 4, .mv (.c (.nil)), none⟩])
  (.seq (.reg [⟨some 8, .slit .int [], none⟩,
    ⟨some 5, .mv (.t 8), none⟩])
  (.seq (.seq (.reg [⟨some 9, .mv (.t 1), none⟩,
    ⟨some 10, .bin .sub (.t 9) (.i 1), none⟩,
    ⟨some 6, .mv (.t 10), none⟩])
  (.block 0 (.loop lp144_0)))
  (.seq (.seq (.reg [⟨some 30, .mv (.t 1), none⟩,
    ⟨some 31, .bin .sub (.t 30) (.i 1), none⟩,
    ⟨some 7, .mv (.t 31), none⟩])
  (.block 2 (.loop lp144_1)))
  (.seq (.reg [⟨some 93, .mv (.t 5), none⟩,
    ⟨some 4, .mv (.t 93), none⟩])
  (.ret)))))⟩

set_option maxHeartbeats 4000000 in
theorem does144 (as : List AV) (hok : ok 64 as) : Does tbNone af144 conDir as := by
  cases h : (conDir).run as with
  | none => exact does_none h
  | some out =>
    have h' := h
    simp only [conDir] at h'
    split at h'
    · rename_i l i
      by_cases hp : 0 ≤ i ∧ i < l.length
      case neg => simp [guardP, hp] at h'
      rw [guardP_pos hp] at h'
      obtain ⟨hp1, hp2⟩ := hp
      simp only [ok] at hok
      obtain ⟨⟨hlen, _⟩, _⟩ := hok
      simp only [Option.some.injEq] at h'
      subst h'
      have hmo : (most : Int) = 1099511627776 := rfl
      have hml : (maxLen : Int) = 9223372036854775807 := rfl
      with_reducible refine does_by h fun Q hQ => ?_
      clear h
      dsimp only [af144, conDir, go_sem, Nat.reduceAdd, Nat.reduceMul, Nat.reduceSub, Nat.reduceBEq, Nat.reduceLeDiff, Nat.reduceEqDiff, ↓dreduceIte, toG]
      repeat' first
        | with_reducible refine kon_seq ?_
        | with_reducible refine kon_nil ?_
        | with_reducible refine kon_any ?_ ?_
        | with_reducible exact kon_any_nil
        | with_reducible refine kon_skip ?_
        | with_reducible refine kon_block ?_
        | with_reducible refine kon_ret ?_
        | with_reducible refine kon_exit ?_
        | with_reducible refine kon_past_ret ?_
        | with_reducible refine kon_past_exit ?_
        | with_reducible refine kon_blk_ret ?_
        | with_reducible refine kon_blk_end ?_
        | with_reducible refine kon_blk_exit ?_
        | (with_reducible refine kon_blk_past ?_ ?_
           · decide)
        | with_reducible refine loop_exit ?_
        | with_reducible refine loop_ret ?_
        | with_reducible refine mid_exit ?_
        | with_reducible refine mid_ret ?_
        | ((first | with_reducible refine kon_bin fun R hR => ?_ | with_reducible refine kon_conv fun R hR => ?_)
           dsimp only [go_sem, Nat.reduceAdd, Nat.reduceMul, Nat.reduceSub, Nat.reduceBEq, Nat.reduceLeDiff, Nat.reduceEqDiff, ↓dreduceIte, toG]
           try simp (disch := first | omega | (simp only [List.length_set, List.length_append, List.length_cons, List.length_nil, List.length_replicate]; omega)) only [guardP_T, guardP_pos, iteN, rd_set, List.set_set, List.length_set, eta_fact, eta_rumor, eta_doubt, eta_item, eta_rec, eta_due, look, look0, rd_toNat, wrap64, Int.toNat_natCast, Nat.zero_add, List.take_length, List.drop_zero, and_self, setB_len, true_and, and_true]
           with_reducible refine hR _ ?_
           clear hR R)
        | (with_reducible refine kon_ins fun R hR => ?_
           dsimp only [go_sem, Nat.reduceAdd, Nat.reduceMul, Nat.reduceSub, Nat.reduceBEq, Nat.reduceLeDiff, Nat.reduceEqDiff, ↓dreduceIte, toG]
           first
             | with_reducible refine hR _ ?_
             | (simp (disch := first | omega | (simp only [List.length_set, List.length_append, List.length_cons, List.length_nil, List.length_replicate]; omega)) only [guardP_T, guardP_pos, iteN, rd_set, List.set_set, List.length_set, eta_fact, eta_rumor, eta_doubt, eta_item, eta_rec, eta_due, look, look0, rd_toNat, wrap64, Int.toNat_natCast, Nat.zero_add, List.take_length, List.drop_zero, and_self, setB_len, true_and, and_true]
                try dsimp only [go_sem, Nat.reduceAdd, Nat.reduceMul, Nat.reduceSub, Nat.reduceBEq, Nat.reduceLeDiff, Nat.reduceEqDiff, ↓dreduceIte, toG]
                try simp (disch := first | omega | (simp only [List.length_set, List.length_append, List.length_cons, List.length_nil, List.length_replicate]; omega)) only [guardP_T, guardP_pos, iteN, rd_set, List.set_set, List.length_set, eta_fact, eta_rumor, eta_doubt, eta_item, eta_rec, eta_due, look, look0, rd_toNat, wrap64, Int.toNat_natCast, Nat.zero_add, List.take_length, List.drop_zero, and_self, setB_len, true_and, and_true]
                with_reducible refine hR _ ?_)
           clear hR R)
        | (with_reducible refine kon_g_run ?_ ?_
           · dsimp only [nth] <;> with_reducible rfl)
        | (with_reducible refine kon_g_skip ?_ ?_
           · dsimp only [nth, not_t', not_f'] <;> with_reducible rfl
           dsimp only [go_sem])
        | (with_reducible refine kon_g_undef ?_ ?_
           · dsimp only [nth] <;> with_reducible rfl
           dsimp only [go_sem])
        | (with_reducible refine kon_g fun R hR => ?_
           dsimp only [go_sem, Nat.reduceAdd, Nat.reduceMul, Nat.reduceSub, Nat.reduceBEq, Nat.reduceLeDiff, Nat.reduceEqDiff, ↓dreduceIte, toG]
           split <;> (rename_i hb; with_reducible refine hR _ ?_; clear hR R; try simp only [hb]; try simp only [decide_eq_true_eq, decide_eq_false_iff_not, beq_iff_eq, beq_eq_false_iff_ne, bne_iff_ne, bne_eq_false_iff_eq, Bool.not_eq_true, Bool.not_eq_false, Bool.not_eq_eq_eq_not, Bool.not_true, Bool.not_false, ne_eq, Int.not_lt, Int.not_le, eq_self, not_true_eq_false, not_false_eq_true, decide_true, decide_false, Bool.and_eq_true, Bool.or_eq_true, Bool.and_eq_false_iff, Bool.or_eq_false_iff, gt_iff_lt, ge_iff_le, Bool.false_eq_true, Bool.true_eq_false, reduceCtorEq, or_false, false_or, or_true, true_or, false_and, and_false] at hb; try (exfalso; omega)))
        | (with_reducible refine kon_cond fun R1 R2 h1 h2 => ?_
           dsimp only [go_sem]
           first
             | (with_reducible refine h1 ?_; clear h1 h2 R1 R2)
             | (with_reducible refine h2 ?_; clear h1 h2 R1 R2)
             | ((split <;> rename_i hb <;> first
                 | (with_reducible refine h1 ?_; clear h1 h2 R1 R2; try simp only [hb])
                 | (with_reducible refine h2 ?_; clear h1 h2 R1 R2; try simp only [hb])) <;> (try simp only [decide_eq_true_eq, decide_eq_false_iff_not, beq_iff_eq, beq_eq_false_iff_ne, bne_iff_ne, bne_eq_false_iff_eq, Bool.not_eq_true, Bool.not_eq_false, Bool.not_eq_eq_eq_not, Bool.not_true, Bool.not_false, ne_eq, Int.not_lt, Int.not_le, eq_self, not_true_eq_false, not_false_eq_true, decide_true, decide_false, Bool.and_eq_true, Bool.or_eq_true, Bool.and_eq_false_iff, Bool.or_eq_false_iff, gt_iff_lt, ge_iff_le, Bool.false_eq_true, Bool.true_eq_false, reduceCtorEq, or_false, false_or, or_true, true_or, false_and, and_false] at hb; try (exfalso; omega))))
        | (with_reducible refine kon_rounds (a := lp144_0) [0, 1, 5, 6] (fun n9 s9 => ∃ (k : Int), ((-1 ≤ k) ∧ (k < i) ∧ (lastI (nodeP (rd l i).node) l i.toNat = lastI (nodeP (rd l i).node) l (k + 1).toNat)) ∧ n9 = (k + 1).toNat ∧ s9.m = [.row 0 .int []] ∧ s9.t = [.sl .rcd l, .int .i64 i, nth s9.t 2, nth s9.t 3, nth s9.t 4, .ms 0 0 0 0, .int .i64 k, nth s9.t 7, nth s9.t 8, nth s9.t 9, nth s9.t 10, nth s9.t 11, nth s9.t 12, nth s9.t 13, nth s9.t 14, nth s9.t 15, nth s9.t 16, nth s9.t 17, nth s9.t 18, nth s9.t 19, nth s9.t 20, nth s9.t 21, nth s9.t 22, nth s9.t 23, nth s9.t 24, nth s9.t 25, nth s9.t 26, nth s9.t 27, nth s9.t 28, nth s9.t 29, nth s9.t 30, nth s9.t 31, nth s9.t 32, nth s9.t 33, nth s9.t 34, nth s9.t 35, nth s9.t 36, nth s9.t 37, nth s9.t 38, nth s9.t 39, nth s9.t 40, nth s9.t 41, nth s9.t 42, nth s9.t 43, nth s9.t 44, nth s9.t 45, nth s9.t 46, nth s9.t 47, nth s9.t 48, nth s9.t 49, nth s9.t 50, nth s9.t 51, nth s9.t 52, nth s9.t 53, nth s9.t 54, nth s9.t 55, nth s9.t 56, nth s9.t 57, nth s9.t 58, nth s9.t 59, nth s9.t 60, nth s9.t 61, nth s9.t 62, nth s9.t 63, nth s9.t 64, nth s9.t 65, nth s9.t 66, nth s9.t 67, nth s9.t 68, nth s9.t 69, nth s9.t 70, nth s9.t 71, nth s9.t 72, nth s9.t 73, nth s9.t 74, nth s9.t 75, nth s9.t 76, nth s9.t 77, nth s9.t 78, nth s9.t 79, nth s9.t 80, nth s9.t 81, nth s9.t 82, nth s9.t 83, nth s9.t 84, nth s9.t 85, nth s9.t 86, nth s9.t 87, nth s9.t 88, nth s9.t 89, nth s9.t 90, nth s9.t 91, nth s9.t 92, nth s9.t 93]) ?_ ?_
           all_goals first
             | (rintro n9 ⟨t9, m9⟩ ⟨k, ⟨hI0, hI1, hI2⟩, rfl, hm9, ht9⟩
                dsimp only at hm9 ht9
                subst hm9
                rw [ht9]
                clear ht9
                dsimp only [lp144_0])
             | (dsimp only [go_sem, Nat.reduceAdd, Nat.reduceMul, Nat.reduceSub, Nat.reduceBEq, Nat.reduceLeDiff, Nat.reduceEqDiff, ↓dreduceIte, toG]
                refine ⟨_, _, ⟨?_, ?_, ?_⟩, rfl, rfl, rfl⟩))
        | (with_reducible refine loop_again (keep := [0, 1, 5, 6]) ?_
           dsimp only [go_sem, Nat.reduceAdd, Nat.reduceMul, Nat.reduceSub, Nat.reduceBEq, Nat.reduceLeDiff, Nat.reduceEqDiff, ↓dreduceIte, toG]
           refine ⟨_, ?_, _, ⟨?_, ?_, ?_⟩, rfl, rfl, rfl⟩)
        | (with_reducible refine kon_rounds (a := lp144_1) [0, 1, 5, 7] (fun n9 s9 => ∃ (k : Int) (o : List Int), ((-1 ≤ k) ∧ (k < i) ∧ (o.length ≤ 1) ∧ (o = if 0 ≤ lastI (nodeP (rd l i).node) l i.toNat then [lastI (nodeP (rd l i).node) l i.toNat] else []) ∧ ((rd l i).kind = 4 → lastI (sentP (rd l i)) l i.toNat = lastI (sentP (rd l i)) l (k + 1).toNat)) ∧ n9 = (k + 1).toNat ∧ s9.m = [.row 0 .int o] ∧ s9.t = [.sl .rcd l, .int .i64 i, nth s9.t 2, nth s9.t 3, nth s9.t 4, .ms 0 0 0 o.length, nth s9.t 6, .int .i64 k, nth s9.t 8, nth s9.t 9, nth s9.t 10, nth s9.t 11, nth s9.t 12, nth s9.t 13, nth s9.t 14, nth s9.t 15, nth s9.t 16, nth s9.t 17, nth s9.t 18, nth s9.t 19, nth s9.t 20, nth s9.t 21, nth s9.t 22, nth s9.t 23, nth s9.t 24, nth s9.t 25, nth s9.t 26, nth s9.t 27, nth s9.t 28, nth s9.t 29, nth s9.t 30, nth s9.t 31, nth s9.t 32, nth s9.t 33, nth s9.t 34, nth s9.t 35, nth s9.t 36, nth s9.t 37, nth s9.t 38, nth s9.t 39, nth s9.t 40, nth s9.t 41, nth s9.t 42, nth s9.t 43, nth s9.t 44, nth s9.t 45, nth s9.t 46, nth s9.t 47, nth s9.t 48, nth s9.t 49, nth s9.t 50, nth s9.t 51, nth s9.t 52, nth s9.t 53, nth s9.t 54, nth s9.t 55, nth s9.t 56, nth s9.t 57, nth s9.t 58, nth s9.t 59, nth s9.t 60, nth s9.t 61, nth s9.t 62, nth s9.t 63, nth s9.t 64, nth s9.t 65, nth s9.t 66, nth s9.t 67, nth s9.t 68, nth s9.t 69, nth s9.t 70, nth s9.t 71, nth s9.t 72, nth s9.t 73, nth s9.t 74, nth s9.t 75, nth s9.t 76, nth s9.t 77, nth s9.t 78, nth s9.t 79, nth s9.t 80, nth s9.t 81, nth s9.t 82, nth s9.t 83, nth s9.t 84, nth s9.t 85, nth s9.t 86, nth s9.t 87, nth s9.t 88, nth s9.t 89, nth s9.t 90, nth s9.t 91, nth s9.t 92, nth s9.t 93]) ?_ ?_
           all_goals first
             | (rintro n9 ⟨t9, m9⟩ ⟨k, o, ⟨hI0, hI1, hI2, hI3, hI4⟩, rfl, hm9, ht9⟩
                dsimp only at hm9 ht9
                subst hm9
                rw [ht9]
                clear ht9
                dsimp only [lp144_1])
             | (dsimp only [go_sem, Nat.reduceAdd, Nat.reduceMul, Nat.reduceSub, Nat.reduceBEq, Nat.reduceLeDiff, Nat.reduceEqDiff, ↓dreduceIte, toG]
                refine ⟨_, _, _, ⟨?_, ?_, ?_, ?_, ?_⟩, rfl, rfl, rfl⟩))
        | (with_reducible refine loop_again (keep := [0, 1, 5, 7]) ?_
           dsimp only [go_sem, Nat.reduceAdd, Nat.reduceMul, Nat.reduceSub, Nat.reduceBEq, Nat.reduceLeDiff, Nat.reduceEqDiff, ↓dreduceIte, toG]
           refine ⟨_, ?_, _, _, ⟨?_, ?_, ?_, ?_, ?_⟩, rfl, rfl, rfl⟩)
      all_goals first
        | (dsimp only [kon]
           with_reducible refine hQ _ _ _ ?_
           dsimp only [kon, endQ, af144, conDir, go_sem, Nat.reduceAdd, Nat.reduceMul, Nat.reduceSub, Nat.reduceBEq, Nat.reduceLeDiff, Nat.reduceEqDiff, ↓dreduceIte, toG]
           try simp (disch := first | omega | (simp only [List.length_set, List.length_append, List.length_cons, List.length_nil, List.length_replicate]; omega)) only [guardP_T, guardP_pos, iteN, rd_set, List.set_set, List.length_set, eta_fact, eta_rumor, eta_doubt, eta_item, eta_rec, eta_due, look, look0, rd_toNat, wrap64, Int.toNat_natCast, Nat.zero_add, List.take_length, List.drop_zero, and_self, setB_len, true_and, and_true]
           try dsimp only [go_sem, Nat.reduceAdd, Nat.reduceMul, Nat.reduceSub, Nat.reduceBEq, Nat.reduceLeDiff, Nat.reduceEqDiff, ↓dreduceIte, toG])
        | skip
      all_goals try first
        | omega
        | (simp; done)
        | (simp; omega)
      all_goals first
        | (rw [show i - 1 + 1 = i by omega]; done)
        | (intro h4
           by_cases hk : 0 ≤ k
           · rw [hI4 h4, lastI_step hk]
             split <;> first
               | (congr 1; omega)
               | (exfalso; rename_i hq; simp only [sentP, nodeP, lifeP, Bool.and_eq_true, Bool.or_eq_true, Bool.not_eq_true, beq_iff_eq, Bool.and_eq_false_iff, beq_eq_false_iff_ne] at hq; omega)
           · first
               | (exfalso; omega)
               | rw [show i - 1 + 1 = i by omega])
        | (intro h4
           rw [show i - 1 + 1 = i by omega])
        | (by_cases hk : 0 ≤ k
           · have hs := hI2
             rw [lastI_step hk] at hs
             split at hs <;> first
               | (rw [hs]; simp [hk]; done)
               | (rw [hs]; congr 1; omega)
               | (exfalso; rename_i hq; simp only [sentP, nodeP, lifeP, Bool.and_eq_true, Bool.or_eq_true, Bool.not_eq_true, beq_iff_eq, Bool.and_eq_false_iff, beq_eq_false_iff_ne] at hq; omega)
           · first
               | (exfalso; omega)
               | (rw [hI2, show k = -1 by omega]
                  simp [lastI]
                  done))
        | (by_cases h4 : (rd l i).kind = 4
           · have hs := hI4 h4
             by_cases hk : 0 ≤ k
             · rw [lastI_step hk] at hs
               split at hs
               · first
                   | (exfalso; omega)
                   | (simp only [dirB, ← hI3, hs]
                      rw [if_pos ⟨h4, hk⟩])
               · (exfalso; rename_i hq; simp only [sentP, nodeP, lifeP, Bool.and_eq_true, Bool.or_eq_true, Bool.not_eq_true, beq_iff_eq, Bool.and_eq_false_iff, beq_eq_false_iff_ne] at hq; omega)
             · first
                 | (exfalso; omega)
                 | (rw [show k = -1 by omega] at hs
                    simp only [dirB, ← hI3, hs]
                    simp [lastI]
                    done)
           · first
               | (exfalso; omega)
               | (simp only [dirB, ← hI3]
                  rw [if_neg (fun h => h4 h.1)]
                  simp
                  done))
    · simp at h'

end Go.Proofs.Ytnghlmogcbmlfaa
