/- No record breaks a clause. -/
import Derived.Test.YtnghlmogcbmlfaaFitsF
namespace Go.Proofs.Ytnghlmogcbmlfaa
set_option linter.unusedVariables false
set_option linter.unusedSimpArgs false
set_option linter.unnecessarySimpa false

theorem recsOk_iff (l : List Rec) : (recsOk l = true) = (l.all recOk = true ∧ l.length ≤ 400) := by
  simp only [recsOk, Bool.and_eq_true, decide_eq_true_eq]
  exact propext and_comm

def anyBr (l : List Rec) (c : Int) : Nat → Bool
  | 0 => false
  | n + 1 => anyBr l c n || breaksI l n c

theorem anyBr_step {l : List Rec} {c i : Int} (h : 0 ≤ i) : anyBr l c (i + 1).toNat = (anyBr l c i.toNat || breaksI l i c) := by
  rw [succ_toNat h, anyBr, show ((i.toNat : Nat) : Int) = i by omega]

theorem anyBr_hit {l : List Rec} {c i : Int} (h0 : 0 ≤ i) (n : Nat) (hn : i < n) (h : breaksI l i c = true) : anyBr l c n = true := by
  induction n with
  | zero => omega
  | succ n ih =>
    rw [anyBr]
    by_cases e : i = n
    · subst e
      rw [h, Bool.or_true]
    · rw [ih (by omega)]
      rfl

def fitsB (l : List Rec) (c : Int) : Bool := recsOk l && (inr c 1 9 && !(anyBr l c l.length))

def conFits : Con := ⟨[.imm .rcd, .v], .v, fun as => match as with
  | [.sl .rcd l, .int .i64 c] => some (.bool (fitsB l c), [])
  | _ => none⟩

end Go.Proofs.Ytnghlmogcbmlfaa
