/- One operation, whichever it is: what the resolver reads, the small machine and the model do alike. -/
import Derived.Test.YtnghlmogcbmlfaaAmQ
namespace Go.Proofs.Ytnghlmogcbmlfaa
set_option linter.unusedVariables false
set_option linter.unusedSimpArgs false

section ops
variable {P : Program} {kt : KT} {w0 : World} {F0 X0 : Nat → Prop} {m : List Blk} {L : List LB} {a : Act} {w : World} {o : Oper} {Z : Nat → Prop} {s : St} {C : Tab} {how : How} {i : AI} {K : AV → List Blk → Prop}

/-- The operation is a call of a function. -/
def IsCall (o : Oper) (i : AI) : Prop :=
  ∃ c, o.op = .call c ∧ ∃ x y xs, c.callee = .value x ∧ resO x = some y ∧ mapO resO c.args.toList = some xs ∧
    ((∃ f, x = .func f ∧ (i = .call f xs ∨ i = .callp f xs ∨ i = .callr f xs)) ∨ i = .callv y xs)

set_option maxHeartbeats 1600000 in
theorem op_sound (hs : Sim w0 F0 X0 s L a w) (hr : resI P kt how o = some i) (hK : evI C i s K) : Goes P w0 F0 X0 L o a w K ∨ IsCall o i := by
  unfold resI at hr
  cases hop : o.op with
  | move x =>
    simp only [hop, Option.bind_eq_bind, Option.bind_eq_some_iff, Option.some.injEq] at hr
    obtain ⟨y, hy, rfl⟩ := hr
    exact .inl (go_move hs (.inl hop) hy hK)
  | assign x =>
    simp only [hop, Option.bind_eq_bind, Option.bind_eq_some_iff, Option.some.injEq] at hr
    obtain ⟨y, hy, rfl⟩ := hr
    exact .inl (go_move hs (.inr hop) hy hK)
  | pick c x y =>
    simp only [hop, Option.bind_eq_bind, Option.bind_eq_some_iff, Option.some.injEq] at hr
    obtain ⟨c', hc, x', hx, y', hy, rfl⟩ := hr
    exact .inl (go_pick hs hop hc hx hy hK)
  | alloc e =>
    simp only [hop, Option.bind_eq_bind, Option.bind_eq_some_iff, Option.some.injEq] at hr
    obtain ⟨z, hz, rfl⟩ := hr
    obtain ⟨V, z1, z2⟩ := zeroT_sound (P := P) (w := w) (L := L) (Z := ZZ X0 L) hz
    exact .inl (go_box hs (tells_alloc hop z1) z2 hK)
  | box e x =>
    simp only [hop, Option.bind_eq_bind, Option.bind_eq_some_iff, Option.some.injEq] at hr
    obtain ⟨y, hy, rfl⟩ := hr
    exact .inl (go_box hs (tells_box hop) (resO_sound hs hy) hK)
  | build t ps =>
    simp only [hop, Option.bind_eq_bind, Option.bind_eq_some_iff] at hr
    obtain ⟨z, hz, hr⟩ := hr
    cases ht : P.underlying t with
    | none => simp [ht] at hr
    | some d =>
      cases d <;> simp only [ht] at hr <;> try (simp at hr; done)
      case array len e =>
        simp only [Option.bind_eq_some_iff, Option.some.injEq] at hr
        obtain ⟨n, hn, q, hq, rfl⟩ := hr
        exact .inl (go_build hs hop hz (.inr ⟨len, e, n, ht, hn, hq⟩) hK)
      case struct fs =>
        simp only [Option.bind_eq_some_iff] at hr
        obtain ⟨q, hq, hr⟩ := hr
        split at hr
        · rename_i hall
          simp only [Option.some.injEq] at hr
          subst hr
          exact .inl (go_build hs hop hz (.inl ⟨fs, ht, hall, hq⟩) hK)
        · simp at hr
  | buildSlice t n ps =>
    simp only [hop, Option.bind_eq_bind] at hr
    cases ht : P.underlying t with
    | none => simp [ht] at hr
    | some d =>
      cases d <;> simp only [ht] at hr <;> try (simp at hr; done)
      case slice e =>
        simp only [Option.bind_eq_some_iff] at hr
        obtain ⟨k, hk, hr⟩ := hr
        split at hr
        · rename_i hc
          simp only [Option.bind_eq_some_iff, Option.some.injEq] at hr
          obtain ⟨ys, hy, rfl⟩ := hr
          simp only [Bool.and_eq_true, beq_iff_eq, decide_eq_true_eq] at hc
          exact .inl (go_slit hs hop ht hk hc.1.1 hc.1.2 hc.2 hy hK)
        · simp at hr
  | load t x =>
    simp only [hop, Option.bind_eq_bind, Option.bind_eq_some_iff, Option.some.injEq] at hr
    obtain ⟨g, hg, n, hn, y, hy, rfl⟩ := hr
    split at hK
    · simp only [evI, stepI] at hK
      obtain ⟨v, hv, hK⟩ := ev_v hK
      exact .inl (go_load hs hop hg hn hy (ldb_ld hv) hK)
    · simp only [evI, stepI] at hK
      obtain ⟨v, hv, hK⟩ := ev_v hK
      exact .inl (go_load hs hop hg hn hy hv hK)
  | store t x y =>
    simp only [hop, Option.bind_eq_bind, Option.bind_eq_some_iff, Option.some.injEq] at hr
    obtain ⟨n, hn, x', hx, y', hy, rfl⟩ := hr
    simp only [evI, stepI] at hK
    cases hv : stA s.m n (x'.get s) (y'.get s) with
    | none => simp only [hv] at hK
    | some m' =>
      simp only [hv] at hK
      exact .inl (go_store hs hop hn hx hy hv hK)
  | nilCheck x =>
    simp only [hop, Option.bind_eq_bind, Option.bind_eq_some_iff, Option.some.injEq] at hr
    obtain ⟨y, hy, rfl⟩ := hr
    exact .inl (go_nc hs hop hy hK)
  | binOp op t x y u =>
    simp only [hop, Option.bind_eq_bind] at hr
    cases ht : P.underlying t with
    | none => simp [ht] at hr
    | some d =>
      cases d <;> simp only [ht] at hr <;> try (simp at hr; done)
      case bool =>
        cases op <;> simp only [Option.bind_eq_some_iff, Option.some.injEq] at hr <;> try (simp at hr; done)
        · obtain ⟨x', hx, y', hy, rfl⟩ := hr
          exact .inl (go_eqb hs hop ht (.inl ⟨rfl, rfl⟩) hx hy hK)
        · obtain ⟨x', hx, y', hy, rfl⟩ := hr
          exact .inl (go_eqb hs hop ht (.inr ⟨rfl, rfl⟩) hx hy hK)
      case int k =>
        simp only [Option.bind_eq_some_iff, Option.some.injEq] at hr
        obtain ⟨x', hx, y', hy, rfl⟩ := hr
        simp only [evI, stepI] at hK
        obtain ⟨v, hv, hK⟩ := ev_v hK
        exact .inl (go_bin hs hop hx hy hv hK)
      case string =>
        simp only [Option.bind_eq_some_iff, Option.some.injEq] at hr
        obtain ⟨x', hx, y', hy, rfl⟩ := hr
        simp only [evI, stepI] at hK
        obtain ⟨v, hv, hK⟩ := ev_v hK
        exact .inl (go_bin hs hop hx hy hv hK)
      case struct fs =>
        cases op <;> simp only [Option.bind_eq_some_iff, Option.some.injEq] at hr <;> try (simp at hr; done)
        · obtain ⟨ps, hp, x', hx, y', hy, rfl⟩ := hr
          exact .inl (go_eqa hs hop hp (.inl ⟨rfl, rfl⟩) hx hy hK)
        · obtain ⟨ps, hp, x', hx, y', hy, rfl⟩ := hr
          exact .inl (go_eqa hs hop hp (.inr ⟨rfl, rfl⟩) hx hy hK)
      case interface ms =>
        split at hr
        · simp only [Option.bind_eq_some_iff, Option.some.injEq] at hr
          obtain ⟨x', hx, rfl⟩ := hr
          exact .inl (go_eqe hs hop ht (.inl ⟨rfl, rfl⟩) hx hK)
        · simp only [Option.bind_eq_some_iff, Option.some.injEq] at hr
          obtain ⟨x', hx, rfl⟩ := hr
          exact .inl (go_eqe hs hop ht (.inr ⟨rfl, rfl⟩) hx hK)
        · simp at hr
      case slice e =>
        split at hr
        · simp only [Option.bind_eq_some_iff, Option.some.injEq] at hr
          obtain ⟨x', hx, rfl⟩ := hr
          exact .inl (go_isnil hs hop ht (.inl ⟨rfl, rfl⟩) hx hK)
        · simp only [Option.bind_eq_some_iff, Option.some.injEq] at hr
          obtain ⟨x', hx, rfl⟩ := hr
          exact .inl (go_isnil hs hop ht (.inr ⟨rfl, rfl⟩) hx hK)
        · simp at hr
  | unOp op t x =>
    simp only [hop, Option.bind_eq_bind] at hr
    cases op <;> simp only [Option.bind_eq_some_iff, Option.some.injEq] at hr <;> try (simp at hr; done)
    all_goals
      obtain ⟨x', hx, rfl⟩ := hr
      exact .inl (go_un hs hop hx (by simp) hK)
  | convert src dst x =>
    simp only [hop, Option.bind_eq_bind] at hr
    split at hr
    · rename_i ks k h1 h2
      simp only [Option.bind_eq_some_iff, Option.some.injEq] at hr
      obtain ⟨x', hx, rfl⟩ := hr
      exact .inl (go_conv hs hop h1 h2 hx hK)
    · rename_i e h1 h2
      split at hr
      · rename_i he
        simp only [Option.bind_eq_some_iff, Option.some.injEq] at hr
        obtain ⟨x', hx, rfl⟩ := hr
        exact .inl (go_b2s hs hop h1 he h2 hx hK)
      · simp at hr
    · rename_i e h1 h2
      split at hr
      · rename_i he
        split at hr
        · rename_i hk
          simp only [Option.bind_eq_some_iff, Option.some.injEq] at hr
          obtain ⟨x', hx, rfl⟩ := hr
          exact .inl (go_s2b hs hop h1 h2 he (by simpa using hk) hx hK)
        · simp at hr
      · simp at hr
    · rename_i h1 h2
      simp only [Option.bind_eq_some_iff, Option.some.injEq] at hr
      obtain ⟨x', hx, rfl⟩ := hr
      exact .inl (go_strv hs hop h1 h2 hx hK)
    · simp at hr
  | makeSlice t l c =>
    simp only [hop, Option.bind_eq_bind] at hr
    split at hr
    · rename_i e ht
      simp only [Option.bind_eq_some_iff, Option.some.injEq] at hr
      obtain ⟨k, hk, z, hz, zk, hd, x', hx, y', hy, rfl⟩ := hr
      exact .inl (go_mk hs hop ht hk hz hd hx hy hK)
    · simp at hr
  | slice t x lo hi mx =>
    simp only [hop, Option.bind_eq_bind] at hr
    split at hr
    · rename_i ht
      split at hr
      · simp only [Option.bind_eq_some_iff, Option.some.injEq] at hr
        obtain ⟨x', hx, lo', h1, hi', h2, rfl⟩ := hr
        exact .inl (go_sls hs hop ht hx h1 h2 hK)
      · simp at hr
    · rename_i e ht
      split at hr
      · simp only [Option.bind_eq_some_iff, Option.some.injEq] at hr
        obtain ⟨k, hk, x', hx, lo', h1, hi', h2, rfl⟩ := hr
        exact .inl (go_slc hs hop ht hk hx h1 h2 hK)
      · split at hr
        · split at hr
          · simp only [Option.bind_eq_some_iff, Option.some.injEq] at hr
            obtain ⟨k, hk, x', hx, rfl⟩ := hr
            exact .inl (go_sl0 hs hop (.inl rfl) ht hk hx hK)
          · simp only [Option.bind_eq_some_iff, Option.some.injEq] at hr
            obtain ⟨k, hk, x', hx, rfl⟩ := hr
            exact .inl (go_sl0 hs hop (.inr rfl) ht hk hx hK)
          · simp at hr
        · simp at hr
    · simp at hr
  | fieldAddr t x f =>
    simp only [hop, Option.bind_eq_bind] at hr
    split at hr
    · rename_i fs ht
      simp only [Option.bind_eq_some_iff] at hr
      obtain ⟨g, hg, n, hn, hr⟩ := hr
      split at hr
      · simp at hr
      · rename_i h0
        simp only [Option.bind_eq_some_iff, Option.some.injEq] at hr
        obtain ⟨x', hx, rfl⟩ := hr
        exact .inl (go_fa hs hop ht hg hn h0 hx hK)
    · simp at hr
  | field t x f =>
    simp only [hop, Option.bind_eq_bind] at hr
    split at hr
    · rename_i fs ht
      simp only [Option.bind_eq_some_iff, Option.some.injEq] at hr
      obtain ⟨g, hg, ag, ha, n, hn, x', hx, rfl⟩ := hr
      exact .inl (go_fd hs hop ht hg ha hn hx hK)
    · simp at hr
  | indexAddr t x j =>
    simp only [hop, Option.bind_eq_bind] at hr
    split at hr
    · rename_i e ht
      simp only [Option.bind_eq_some_iff, Option.some.injEq] at hr
      obtain ⟨k, hk, x', hx, j', hj, rfl⟩ := hr
      exact .inl (go_ia hs hop ht hk hx hj hK)
    · rename_i len e ht
      simp only [Option.bind_eq_some_iff, Option.some.injEq] at hr
      obtain ⟨n, hn, x', hx, j', hj, rfl⟩ := hr
      exact .inl (go_iaa hs hop ht hn hx hj hK)
    · simp at hr
  | index t x j =>
    simp only [hop, Option.bind_eq_bind] at hr
    split at hr
    · rename_i len e ht
      simp only [Option.bind_eq_some_iff, Option.some.injEq] at hr
      obtain ⟨g, hg, n, hn, x', hx, j', hj, rfl⟩ := hr
      exact .inl (go_ix hs hop ht hg hn hx hj hK)
    · rename_i ht
      simp only [Option.bind_eq_some_iff, Option.some.injEq] at hr
      obtain ⟨x', hx, j', hj, rfl⟩ := hr
      exact .inl (go_ixs hs hop ht hx hj hK)
    · simp at hr
  | extract x j =>
    simp only [hop, Option.bind_eq_bind, Option.bind_eq_some_iff, Option.some.injEq] at hr
    obtain ⟨x', hx, rfl⟩ := hr
    exact .inl (go_ex hs hop hx hK)
  | makeFunc fn first caps =>
    cases fn <;> simp only [hop, Option.bind_eq_bind] at hr <;> try (simp at hr; done)
    rename_i f
    split at hr
    · rename_i h0
      simp only [Option.bind_eq_some_iff, Option.some.injEq] at hr
      obtain ⟨ys, hy, rfl⟩ := hr
      obtain rfl : first = #[] := by simpa using h0
      exact .inl (go_mf hs hop hy hK)
    · simp at hr
  | call c =>
    simp only [hop, Option.bind_eq_bind] at hr
    split at hr
    · rename_i f hc
      simp only [Option.bind_eq_some_iff, Option.some.injEq] at hr
      obtain ⟨xs, hx, hr⟩ := hr
      right
      refine ⟨c, hop, .func f, _, xs, hc, rfl, hx, .inl ⟨f, rfl, ?_⟩⟩
      split at hr
      · exact .inr (.inl hr.symm)
      · split at hr
        · exact .inr (.inr hr.symm)
        · exact .inl hr.symm
    · rename_i x hnf hc
      simp only [Option.bind_eq_some_iff, Option.some.injEq] at hr
      obtain ⟨y, hy, xs, hx, rfl⟩ := hr
      exact .inr ⟨c, hop, x, y, xs, hc, hy, hx, .inr rfl⟩
    · rename_i hc
      split at hr
      · rename_i x t h1 h2
        have ha : c.args = #[x] := by rw [← Array.toArray_toList (xs := c.args), h1]
        have hat : c.argTypes = #[t] := by rw [← Array.toArray_toList (xs := c.argTypes), h2]
        split at hr
        · rename_i e ht
          simp only [Option.bind_eq_some_iff, Option.some.injEq] at hr
          obtain ⟨x', hx, rfl⟩ := hr
          exact .inl (go_len hs hop hc ha hat ht hx hK)
        · rename_i ht
          simp only [Option.bind_eq_some_iff, Option.some.injEq] at hr
          obtain ⟨x', hx, rfl⟩ := hr
          exact .inl (go_lens hs hop hc ha hat ht hx hK)
        · simp at hr
      · simp at hr
    · rename_i hc
      split at hr
      · rename_i x y t u h1 h2
        have ha : c.args = #[x, y] := by rw [← Array.toArray_toList (xs := c.args), h1]
        have hat : c.argTypes = #[t, u] := by rw [← Array.toArray_toList (xs := c.argTypes), h2]
        split at hr
        · rename_i e e' ht hu
          simp only [Option.bind_eq_some_iff] at hr
          obtain ⟨k, hk, hr⟩ := hr
          split at hr
          · simp only [Option.bind_eq_some_iff, Option.some.injEq] at hr
            obtain ⟨x', hx, y', hy, rfl⟩ := hr
            exact .inl (go_app hs hop hc ha hat ht hu hk hx hy hK)
          · simp at hr
        · rename_i e ht hu
          split at hr
          · rename_i hk
            simp only [Option.bind_eq_some_iff, Option.some.injEq] at hr
            obtain ⟨x', hx, y', hy, rfl⟩ := hr
            exact .inl (go_apps hs hop hc ha hat ht hu (by simpa using hk) hx hy hK)
          · simp at hr
        · simp at hr
      · simp at hr
    · rename_i hc
      split at hr
      · rename_i x xs h1
        simp only [Option.bind_eq_some_iff, Option.some.injEq] at hr
        obtain ⟨x', hx, ys, hy, rfl⟩ := hr
        exact .inl (go_mx hs hop hc h1 hx hy hK)
      · simp at hr
    · rename_i hc
      split at hr
      · rename_i x xs h1
        simp only [Option.bind_eq_some_iff, Option.some.injEq] at hr
        obtain ⟨x', hx, ys, hy, rfl⟩ := hr
        exact .inl (go_mn hs hop hc h1 hx hy hK)
      · simp at hr
    · simp at hr
  | _ => simp [hop] at hr

end ops

end Go.Proofs.Ytnghlmogcbmlfaa
