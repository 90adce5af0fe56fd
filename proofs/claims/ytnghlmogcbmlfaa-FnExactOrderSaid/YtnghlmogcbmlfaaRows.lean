/-
  No cell of these rows narrows 'for every input' (looked for: loops, veiled, ifaces, maps, wideKeys, modest, calm, conditions, laid).
  DERIVED. THE GIVEN ROWS OF THIS SEAT. 10 by the template 'for every input the law returns true; each argument reads behind the call as it read before'; 0 by the template 'total and deterministic' (their statements: YtnghlmogcbmlfaaTotals.lean).
  GIVEN WITH THE SEED: the statements are not yours to turn. If you find one false, say at which input.
  Laid BY PROGRAM, IN A SANDBOX (cutbox-rows.mjs): the forced cells as the released guide's own fill.sh prints them over the translation 3006c0b649b71520… (all of the seat's roots in one cut). By AI agents, Wed Nov 11 2026. No macro, syntax, notation, axiom, sorry.
-/
import Derived.Test.YtnghlmogcbmlfaaChecked
import GoSem.Claim
import GoSem.ClaimJoined
import GoSem.ClaimMapViews
import Derived.JoinedTies
import Derived.KernelRfl
namespace Go.Proofs.Ytnghlmogcbmlfaa
/- THE CELL 'sum', in the pinned program and in every row, IS THE sha256 OF THE DUMP (.gsa) THAT YtnghlmogcbmlfaaProg.lean LOADS. Nothing in Lean hashes anything: it is a label: what it is worth is what the hold of that sum in a sandbox is worth. -/
noncomputable def Try.pinned : Pinned := { name := "ytnghlmogcbmlfaa", sum := "3006c0b649b71520f8b31e7cfaa0bf7868e3c46cf21f80bd25bce67bd32d540d", checked := Try.checked }
namespace Rows
def none {H : Type} : Left H := { results := [], args := [] }

/-- 'laws.FnExactRecBytes': WHATEVER THE INPUT: true; the input reads as it did. -/
def fnExactRecBytesSpec : ChangeSpec := { name := "fnExactRecBytes", fn := fun _ => fun
  | [d] => { results := [.lit (.bool true)], args := [d] }
  | _ => none }
def fnExactRecBytesRow : OpenClaim := { program := "ytnghlmogcbmlfaa", sum := "3006c0b649b71520f8b31e7cfaa0bf7868e3c46cf21f80bd25bce67bd32d540d", func := "loop.example/g00678/laws.FnExactRecBytes", spec := "fnExactRecBytes", apart := false }
def FnExactRecBytesSaid : Prop := fnExactRecBytesRow.holds Try.pinned (OpenSpec.ofChange fnExactRecBytesSpec)

/-- ITS FALSE NEIGHBOUR: 'it returns false'. Refute it at one input. -/
def fnExactRecBytesWrong : ChangeSpec := { name := "fnExactRecBytes", fn := fun _ => fun
  | [d] => { results := [.lit (.bool false)], args := [d] }
  | _ => none }
def FnExactRecBytesWrongFalsely : Prop := fnExactRecBytesRow.holds Try.pinned (OpenSpec.ofChange fnExactRecBytesWrong)

/-- 'laws.FnExactRecsBytes': WHATEVER THE INPUT: true; the input reads as it did. -/
def fnExactRecsBytesSpec : ChangeSpec := { name := "fnExactRecsBytes", fn := fun _ => fun
  | [d] => { results := [.lit (.bool true)], args := [d] }
  | _ => none }
def fnExactRecsBytesRow : OpenClaim := { program := "ytnghlmogcbmlfaa", sum := "3006c0b649b71520f8b31e7cfaa0bf7868e3c46cf21f80bd25bce67bd32d540d", func := "loop.example/g00678/laws.FnExactRecsBytes", spec := "fnExactRecsBytes", unfollowed := true, recurses := true, apart := false }
def FnExactRecsBytesSaid : Prop := fnExactRecsBytesRow.holds Try.pinned (OpenSpec.ofChange fnExactRecsBytesSpec)

/-- ITS FALSE NEIGHBOUR: 'it returns false'. Refute it at one input. -/
def fnExactRecsBytesWrong : ChangeSpec := { name := "fnExactRecsBytes", fn := fun _ => fun
  | [d] => { results := [.lit (.bool false)], args := [d] }
  | _ => none }
def FnExactRecsBytesWrongFalsely : Prop := fnExactRecsBytesRow.holds Try.pinned (OpenSpec.ofChange fnExactRecsBytesWrong)

/-- 'laws.FnExactOrder': WHATEVER THE INPUT: true; the input reads as it did. -/
def fnExactOrderSpec : ChangeSpec := { name := "fnExactOrder", fn := fun _ => fun
  | [d] => { results := [.lit (.bool true)], args := [d] }
  | _ => none }
def fnExactOrderRow : OpenClaim := { program := "ytnghlmogcbmlfaa", sum := "3006c0b649b71520f8b31e7cfaa0bf7868e3c46cf21f80bd25bce67bd32d540d", func := "loop.example/g00678/laws.FnExactOrder", spec := "fnExactOrder", unfollowed := true, recurses := true, apart := false }
def FnExactOrderSaid : Prop := fnExactOrderRow.holds Try.pinned (OpenSpec.ofChange fnExactOrderSpec)

/-- ITS FALSE NEIGHBOUR: 'it returns false'. Refute it at one input. -/
def fnExactOrderWrong : ChangeSpec := { name := "fnExactOrder", fn := fun _ => fun
  | [d] => { results := [.lit (.bool false)], args := [d] }
  | _ => none }
def FnExactOrderWrongFalsely : Prop := fnExactOrderRow.holds Try.pinned (OpenSpec.ofChange fnExactOrderWrong)

/-- 'laws.FnExactViewFrom': WHATEVER THE INPUT: true; the input reads as it did. -/
def fnExactViewFromSpec : ChangeSpec := { name := "fnExactViewFrom", fn := fun _ => fun
  | [d1, d2] => { results := [.lit (.bool true)], args := [d1, d2] }
  | _ => none }
def fnExactViewFromRow : OpenClaim := { program := "ytnghlmogcbmlfaa", sum := "3006c0b649b71520f8b31e7cfaa0bf7868e3c46cf21f80bd25bce67bd32d540d", func := "loop.example/g00678/laws.FnExactViewFrom", spec := "fnExactViewFrom", inPlace := ["slices.overlaps[loop.example/g00678/impl.Fact]"], unfollowed := true, recurses := true, apart := false }
def FnExactViewFromSaid : Prop := fnExactViewFromRow.holds Try.pinned (OpenSpec.ofChange fnExactViewFromSpec)

/-- ITS FALSE NEIGHBOUR: 'it returns false'. Refute it at one input. -/
def fnExactViewFromWrong : ChangeSpec := { name := "fnExactViewFrom", fn := fun _ => fun
  | [d1, d2] => { results := [.lit (.bool false)], args := [d1, d2] }
  | _ => none }
def FnExactViewFromWrongFalsely : Prop := fnExactViewFromRow.holds Try.pinned (OpenSpec.ofChange fnExactViewFromWrong)

/-- 'laws.FnExactNodeRight': WHATEVER THE INPUT: true; the input reads as it did. -/
def fnExactNodeRightSpec : ChangeSpec := { name := "fnExactNodeRight", fn := fun _ => fun
  | [d] => { results := [.lit (.bool true)], args := [d] }
  | _ => none }
def fnExactNodeRightRow : OpenClaim := { program := "ytnghlmogcbmlfaa", sum := "3006c0b649b71520f8b31e7cfaa0bf7868e3c46cf21f80bd25bce67bd32d540d", func := "loop.example/g00678/laws.FnExactNodeRight", spec := "fnExactNodeRight", apart := false }
def FnExactNodeRightSaid : Prop := fnExactNodeRightRow.holds Try.pinned (OpenSpec.ofChange fnExactNodeRightSpec)

/-- ITS FALSE NEIGHBOUR: 'it returns false'. Refute it at one input. -/
def fnExactNodeRightWrong : ChangeSpec := { name := "fnExactNodeRight", fn := fun _ => fun
  | [d] => { results := [.lit (.bool false)], args := [d] }
  | _ => none }
def FnExactNodeRightWrongFalsely : Prop := fnExactNodeRightRow.holds Try.pinned (OpenSpec.ofChange fnExactNodeRightWrong)

/-- 'laws.FnExactRecsRead': WHATEVER THE INPUT: true; the input reads as it did. -/
def fnExactRecsReadSpec : ChangeSpec := { name := "fnExactRecsRead", fn := fun _ => fun
  | [d] => { results := [.lit (.bool true)], args := [d] }
  | _ => none }
def fnExactRecsReadRow : OpenClaim := { program := "ytnghlmogcbmlfaa", sum := "3006c0b649b71520f8b31e7cfaa0bf7868e3c46cf21f80bd25bce67bd32d540d", func := "loop.example/g00678/laws.FnExactRecsRead", spec := "fnExactRecsRead", apart := false }
def FnExactRecsReadSaid : Prop := fnExactRecsReadRow.holds Try.pinned (OpenSpec.ofChange fnExactRecsReadSpec)

/-- ITS FALSE NEIGHBOUR: 'it returns false'. Refute it at one input. -/
def fnExactRecsReadWrong : ChangeSpec := { name := "fnExactRecsRead", fn := fun _ => fun
  | [d] => { results := [.lit (.bool false)], args := [d] }
  | _ => none }
def FnExactRecsReadWrongFalsely : Prop := fnExactRecsReadRow.holds Try.pinned (OpenSpec.ofChange fnExactRecsReadWrong)

/-- 'laws.FnExactUnroll': WHATEVER THE INPUT: true; the input reads as it did. -/
def fnExactUnrollSpec : ChangeSpec := { name := "fnExactUnroll", fn := fun _ => fun
  | [d] => { results := [.lit (.bool true)], args := [d] }
  | _ => none }
def fnExactUnrollRow : OpenClaim := { program := "ytnghlmogcbmlfaa", sum := "3006c0b649b71520f8b31e7cfaa0bf7868e3c46cf21f80bd25bce67bd32d540d", func := "loop.example/g00678/laws.FnExactUnroll", spec := "fnExactUnroll", unfollowed := true, recurses := true, apart := false }
def FnExactUnrollSaid : Prop := fnExactUnrollRow.holds Try.pinned (OpenSpec.ofChange fnExactUnrollSpec)

/-- ITS FALSE NEIGHBOUR: 'it returns false'. Refute it at one input. -/
def fnExactUnrollWrong : ChangeSpec := { name := "fnExactUnroll", fn := fun _ => fun
  | [d] => { results := [.lit (.bool false)], args := [d] }
  | _ => none }
def FnExactUnrollWrongFalsely : Prop := fnExactUnrollRow.holds Try.pinned (OpenSpec.ofChange fnExactUnrollWrong)

/-- 'laws.FnExactWakeAt': WHATEVER THE INPUT: true; the input reads as it did. -/
def fnExactWakeAtSpec : ChangeSpec := { name := "fnExactWakeAt", fn := fun _ => fun
  | [d] => { results := [.lit (.bool true)], args := [d] }
  | _ => none }
def fnExactWakeAtRow : OpenClaim := { program := "ytnghlmogcbmlfaa", sum := "3006c0b649b71520f8b31e7cfaa0bf7868e3c46cf21f80bd25bce67bd32d540d", func := "loop.example/g00678/laws.FnExactWakeAt", spec := "fnExactWakeAt", apart := false }
def FnExactWakeAtSaid : Prop := fnExactWakeAtRow.holds Try.pinned (OpenSpec.ofChange fnExactWakeAtSpec)

/-- ITS FALSE NEIGHBOUR: 'it returns false'. Refute it at one input. -/
def fnExactWakeAtWrong : ChangeSpec := { name := "fnExactWakeAt", fn := fun _ => fun
  | [d] => { results := [.lit (.bool false)], args := [d] }
  | _ => none }
def FnExactWakeAtWrongFalsely : Prop := fnExactWakeAtRow.holds Try.pinned (OpenSpec.ofChange fnExactWakeAtWrong)

/-- 'laws.FnExactShows': WHATEVER THE INPUT: true; the input reads as it did. -/
def fnExactShowsSpec : ChangeSpec := { name := "fnExactShows", fn := fun _ => fun
  | [d1, d2, d3] => { results := [.lit (.bool true)], args := [d1, d2, d3] }
  | _ => none }
def fnExactShowsRow : OpenClaim := { program := "ytnghlmogcbmlfaa", sum := "3006c0b649b71520f8b31e7cfaa0bf7868e3c46cf21f80bd25bce67bd32d540d", func := "loop.example/g00678/laws.FnExactShows", spec := "fnExactShows", unfollowed := true, recurses := true, apart := false }
def FnExactShowsSaid : Prop := fnExactShowsRow.holds Try.pinned (OpenSpec.ofChange fnExactShowsSpec)

/-- ITS FALSE NEIGHBOUR: 'it returns false'. Refute it at one input. -/
def fnExactShowsWrong : ChangeSpec := { name := "fnExactShows", fn := fun _ => fun
  | [d1, d2, d3] => { results := [.lit (.bool false)], args := [d1, d2, d3] }
  | _ => none }
def FnExactShowsWrongFalsely : Prop := fnExactShowsRow.holds Try.pinned (OpenSpec.ofChange fnExactShowsWrong)

/-- 'laws.FnExactRule': WHATEVER THE INPUT: true; the input reads as it did. -/
def fnExactRuleSpec : ChangeSpec := { name := "fnExactRule", fn := fun _ => fun
  | [d] => { results := [.lit (.bool true)], args := [d] }
  | _ => none }
def fnExactRuleRow : OpenClaim := { program := "ytnghlmogcbmlfaa", sum := "3006c0b649b71520f8b31e7cfaa0bf7868e3c46cf21f80bd25bce67bd32d540d", func := "loop.example/g00678/laws.FnExactRule", spec := "fnExactRule", unfollowed := true, recurses := true, apart := false }
def FnExactRuleSaid : Prop := fnExactRuleRow.holds Try.pinned (OpenSpec.ofChange fnExactRuleSpec)

/-- ITS FALSE NEIGHBOUR: 'it returns false'. Refute it at one input. -/
def fnExactRuleWrong : ChangeSpec := { name := "fnExactRule", fn := fun _ => fun
  | [d] => { results := [.lit (.bool false)], args := [d] }
  | _ => none }
def FnExactRuleWrongFalsely : Prop := fnExactRuleRow.holds Try.pinned (OpenSpec.ofChange fnExactRuleWrong)

/- THE SECOND FORM. 'bulk': how many values and letters a reading holds, each counted each time it is reached (what is shared counts as often as it is met; a slice's spare places count too). A statement '..UptoSaid' is the law's where the arguments, and the package variables that the reading takes, are together of bulk at most 1048576: NARROWER than '..Said'. Prove '..Said' where nothing that the law and all that it calls make is longer than what came in: it says more and counts as full. Else prove '..UptoSaid'. A law counts once. -/
mutual
def uptoBulk {H : Type} : DataW H → Nat
  | .lit (.string bytes) => bytes.length + 1
  | .lit _ => 1
  | .nil => 1
  | .ptr d => uptoBulk d + 1
  | .slice elems spare => uptoBulkAll elems + uptoBulkAll spare + 1
  | .agg parts => uptoBulkAll parts + 1
  | .iface _ d => uptoBulk d + 1
  | .map entries => uptoBulkEntries entries + 1
  | .held _ => 1
def uptoBulkAll {H : Type} : List (DataW H) → Nat
  | [] => 0
  | d :: r => uptoBulk d + uptoBulkAll r
def uptoBulkEntries {H : Type} : List (Lit × DataW H) → Nat
  | [] => 0
  | x :: r => uptoBulkEntry x + uptoBulkEntries r
def uptoBulkEntry {H : Type} : Lit × DataW H → Nat
  | (.string bytes, d) => bytes.length + uptoBulk d + 1
  | (_, d) => uptoBulk d + 1
 end
def uptoSmall : (H : Type) → List (DataW H) → Bool := fun _ ds => decide (uptoBulkAll ds ≤ 1048576)
def OpenSpec.upto (s : _root_.Go.ChangeSpec) : _root_.Go.OpenSpec := { _root_.Go.OpenSpec.ofChange s with cond := some uptoSmall }

/-- 'laws.FnExactRecBytes', WHERE WHAT IT READS IS OF BULK AT MOST 1048576: true; the input reads as it did. -/
def fnExactRecBytesUptoRow : OpenClaim := { program := "ytnghlmogcbmlfaa", sum := "3006c0b649b71520f8b31e7cfaa0bf7868e3c46cf21f80bd25bce67bd32d540d", func := "loop.example/g00678/laws.FnExactRecBytes", spec := "fnExactRecBytes", apart := false, narrowed := true }
def FnExactRecBytesUptoSaid : Prop := fnExactRecBytesUptoRow.holds Try.pinned (OpenSpec.upto fnExactRecBytesSpec)

/-- 'laws.FnExactRecsBytes', WHERE WHAT IT READS IS OF BULK AT MOST 1048576: true; the input reads as it did. -/
def fnExactRecsBytesUptoRow : OpenClaim := { program := "ytnghlmogcbmlfaa", sum := "3006c0b649b71520f8b31e7cfaa0bf7868e3c46cf21f80bd25bce67bd32d540d", func := "loop.example/g00678/laws.FnExactRecsBytes", spec := "fnExactRecsBytes", unfollowed := true, recurses := true, apart := false, narrowed := true }
def FnExactRecsBytesUptoSaid : Prop := fnExactRecsBytesUptoRow.holds Try.pinned (OpenSpec.upto fnExactRecsBytesSpec)

/-- 'laws.FnExactOrder', WHERE WHAT IT READS IS OF BULK AT MOST 1048576: true; the input reads as it did. -/
def fnExactOrderUptoRow : OpenClaim := { program := "ytnghlmogcbmlfaa", sum := "3006c0b649b71520f8b31e7cfaa0bf7868e3c46cf21f80bd25bce67bd32d540d", func := "loop.example/g00678/laws.FnExactOrder", spec := "fnExactOrder", unfollowed := true, recurses := true, apart := false, narrowed := true }
def FnExactOrderUptoSaid : Prop := fnExactOrderUptoRow.holds Try.pinned (OpenSpec.upto fnExactOrderSpec)

/-- 'laws.FnExactViewFrom', WHERE WHAT IT READS IS OF BULK AT MOST 1048576: true; the input reads as it did. -/
def fnExactViewFromUptoRow : OpenClaim := { program := "ytnghlmogcbmlfaa", sum := "3006c0b649b71520f8b31e7cfaa0bf7868e3c46cf21f80bd25bce67bd32d540d", func := "loop.example/g00678/laws.FnExactViewFrom", spec := "fnExactViewFrom", inPlace := ["slices.overlaps[loop.example/g00678/impl.Fact]"], unfollowed := true, recurses := true, apart := false, narrowed := true }
def FnExactViewFromUptoSaid : Prop := fnExactViewFromUptoRow.holds Try.pinned (OpenSpec.upto fnExactViewFromSpec)

/-- 'laws.FnExactNodeRight', WHERE WHAT IT READS IS OF BULK AT MOST 1048576: true; the input reads as it did. -/
def fnExactNodeRightUptoRow : OpenClaim := { program := "ytnghlmogcbmlfaa", sum := "3006c0b649b71520f8b31e7cfaa0bf7868e3c46cf21f80bd25bce67bd32d540d", func := "loop.example/g00678/laws.FnExactNodeRight", spec := "fnExactNodeRight", apart := false, narrowed := true }
def FnExactNodeRightUptoSaid : Prop := fnExactNodeRightUptoRow.holds Try.pinned (OpenSpec.upto fnExactNodeRightSpec)

/-- 'laws.FnExactRecsRead', WHERE WHAT IT READS IS OF BULK AT MOST 1048576: true; the input reads as it did. -/
def fnExactRecsReadUptoRow : OpenClaim := { program := "ytnghlmogcbmlfaa", sum := "3006c0b649b71520f8b31e7cfaa0bf7868e3c46cf21f80bd25bce67bd32d540d", func := "loop.example/g00678/laws.FnExactRecsRead", spec := "fnExactRecsRead", apart := false, narrowed := true }
def FnExactRecsReadUptoSaid : Prop := fnExactRecsReadUptoRow.holds Try.pinned (OpenSpec.upto fnExactRecsReadSpec)

/-- 'laws.FnExactUnroll', WHERE WHAT IT READS IS OF BULK AT MOST 1048576: true; the input reads as it did. -/
def fnExactUnrollUptoRow : OpenClaim := { program := "ytnghlmogcbmlfaa", sum := "3006c0b649b71520f8b31e7cfaa0bf7868e3c46cf21f80bd25bce67bd32d540d", func := "loop.example/g00678/laws.FnExactUnroll", spec := "fnExactUnroll", unfollowed := true, recurses := true, apart := false, narrowed := true }
def FnExactUnrollUptoSaid : Prop := fnExactUnrollUptoRow.holds Try.pinned (OpenSpec.upto fnExactUnrollSpec)

/-- 'laws.FnExactWakeAt', WHERE WHAT IT READS IS OF BULK AT MOST 1048576: true; the input reads as it did. -/
def fnExactWakeAtUptoRow : OpenClaim := { program := "ytnghlmogcbmlfaa", sum := "3006c0b649b71520f8b31e7cfaa0bf7868e3c46cf21f80bd25bce67bd32d540d", func := "loop.example/g00678/laws.FnExactWakeAt", spec := "fnExactWakeAt", apart := false, narrowed := true }
def FnExactWakeAtUptoSaid : Prop := fnExactWakeAtUptoRow.holds Try.pinned (OpenSpec.upto fnExactWakeAtSpec)

/-- 'laws.FnExactShows', WHERE WHAT IT READS IS OF BULK AT MOST 1048576: true; the input reads as it did. -/
def fnExactShowsUptoRow : OpenClaim := { program := "ytnghlmogcbmlfaa", sum := "3006c0b649b71520f8b31e7cfaa0bf7868e3c46cf21f80bd25bce67bd32d540d", func := "loop.example/g00678/laws.FnExactShows", spec := "fnExactShows", unfollowed := true, recurses := true, apart := false, narrowed := true }
def FnExactShowsUptoSaid : Prop := fnExactShowsUptoRow.holds Try.pinned (OpenSpec.upto fnExactShowsSpec)

/-- 'laws.FnExactRule', WHERE WHAT IT READS IS OF BULK AT MOST 1048576: true; the input reads as it did. -/
def fnExactRuleUptoRow : OpenClaim := { program := "ytnghlmogcbmlfaa", sum := "3006c0b649b71520f8b31e7cfaa0bf7868e3c46cf21f80bd25bce67bd32d540d", func := "loop.example/g00678/laws.FnExactRule", spec := "fnExactRule", unfollowed := true, recurses := true, apart := false, narrowed := true }
def FnExactRuleUptoSaid : Prop := fnExactRuleUptoRow.holds Try.pinned (OpenSpec.upto fnExactRuleSpec)

end Rows
end Go.Proofs.Ytnghlmogcbmlfaa
