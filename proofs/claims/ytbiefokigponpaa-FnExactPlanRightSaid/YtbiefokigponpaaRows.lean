/-
  No cell of these rows narrows 'for every input' (looked for: loops, veiled, ifaces, maps, wideKeys, modest, calm, conditions, laid).
  DERIVED. THE GIVEN ROWS OF THIS SEAT. 5 by the template 'for every input the law returns true; each argument reads behind the call as it read before'; 0 by the template 'total and deterministic' (their statements: YtbiefokigponpaaTotals.lean).
  GIVEN WITH THE SEED: the statements are not yours to turn. If you find one false, say at which input.
  Laid BY PROGRAM, IN A SANDBOX (cutbox-rows.mjs): the forced cells as the released guide's own fill.sh prints them over the translation 64762b8565927754… (all of the seat's roots in one cut). By AI agents, Wed Nov 11 2026. No macro, syntax, notation, axiom, sorry.
-/
import Derived.Test.YtbiefokigponpaaChecked
import GoSem.Claim
import GoSem.ClaimJoined
import GoSem.ClaimMapViews
import Derived.JoinedTies
import Derived.KernelRfl
namespace Go.Proofs.Ytbiefokigponpaa
/- THE CELL 'sum', in the pinned program and in every row, IS THE sha256 OF THE DUMP (.gsa) THAT YtbiefokigponpaaProg.lean LOADS. Nothing in Lean hashes anything: it is a label: what it is worth is what the hold of that sum in a sandbox is worth. -/
noncomputable def Try.pinned : Pinned := { name := "ytbiefokigponpaa", sum := "64762b8565927754feb7be51a4da98de368eee53eaedb3b071de6b76bb2f5a18", checked := Try.checked }
namespace Rows
def none {H : Type} : Left H := { results := [], args := [] }

/-- 'laws.FnExactItemRight': WHATEVER THE INPUT: true; the input reads as it did. -/
def fnExactItemRightSpec : ChangeSpec := { name := "fnExactItemRight", fn := fun _ => fun
  | [d] => { results := [.lit (.bool true)], args := [d] }
  | _ => none }
def fnExactItemRightRow : OpenClaim := { program := "ytbiefokigponpaa", sum := "64762b8565927754feb7be51a4da98de368eee53eaedb3b071de6b76bb2f5a18", func := "loop.example/g00678/laws.FnExactItemRight", spec := "fnExactItemRight", apart := false }
def FnExactItemRightSaid : Prop := fnExactItemRightRow.holds Try.pinned (OpenSpec.ofChange fnExactItemRightSpec)

/-- ITS FALSE NEIGHBOUR: 'it returns false'. Refute it at one input. -/
def fnExactItemRightWrong : ChangeSpec := { name := "fnExactItemRight", fn := fun _ => fun
  | [d] => { results := [.lit (.bool false)], args := [d] }
  | _ => none }
def FnExactItemRightWrongFalsely : Prop := fnExactItemRightRow.holds Try.pinned (OpenSpec.ofChange fnExactItemRightWrong)

/-- 'laws.FnExactRecRight': WHATEVER THE INPUT: true; the input reads as it did. -/
def fnExactRecRightSpec : ChangeSpec := { name := "fnExactRecRight", fn := fun _ => fun
  | [d] => { results := [.lit (.bool true)], args := [d] }
  | _ => none }
def fnExactRecRightRow : OpenClaim := { program := "ytbiefokigponpaa", sum := "64762b8565927754feb7be51a4da98de368eee53eaedb3b071de6b76bb2f5a18", func := "loop.example/g00678/laws.FnExactRecRight", spec := "fnExactRecRight", apart := false }
def FnExactRecRightSaid : Prop := fnExactRecRightRow.holds Try.pinned (OpenSpec.ofChange fnExactRecRightSpec)

/-- ITS FALSE NEIGHBOUR: 'it returns false'. Refute it at one input. -/
def fnExactRecRightWrong : ChangeSpec := { name := "fnExactRecRight", fn := fun _ => fun
  | [d] => { results := [.lit (.bool false)], args := [d] }
  | _ => none }
def FnExactRecRightWrongFalsely : Prop := fnExactRecRightRow.holds Try.pinned (OpenSpec.ofChange fnExactRecRightWrong)

/-- 'laws.FnExactCutMeet': WHATEVER THE INPUT: true; the input reads as it did. -/
def fnExactCutMeetSpec : ChangeSpec := { name := "fnExactCutMeet", fn := fun _ => fun
  | [d1, d2] => { results := [.lit (.bool true)], args := [d1, d2] }
  | _ => none }
def fnExactCutMeetRow : OpenClaim := { program := "ytbiefokigponpaa", sum := "64762b8565927754feb7be51a4da98de368eee53eaedb3b071de6b76bb2f5a18", func := "loop.example/g00678/laws.FnExactCutMeet", spec := "fnExactCutMeet", unfollowed := true, recurses := true, apart := false }
def FnExactCutMeetSaid : Prop := fnExactCutMeetRow.holds Try.pinned (OpenSpec.ofChange fnExactCutMeetSpec)

/-- ITS FALSE NEIGHBOUR: 'it returns false'. Refute it at one input. -/
def fnExactCutMeetWrong : ChangeSpec := { name := "fnExactCutMeet", fn := fun _ => fun
  | [d1, d2] => { results := [.lit (.bool false)], args := [d1, d2] }
  | _ => none }
def FnExactCutMeetWrongFalsely : Prop := fnExactCutMeetRow.holds Try.pinned (OpenSpec.ofChange fnExactCutMeetWrong)

/-- 'laws.FnExactCutJoin': WHATEVER THE INPUT: true; the input reads as it did. -/
def fnExactCutJoinSpec : ChangeSpec := { name := "fnExactCutJoin", fn := fun _ => fun
  | [d1, d2] => { results := [.lit (.bool true)], args := [d1, d2] }
  | _ => none }
def fnExactCutJoinRow : OpenClaim := { program := "ytbiefokigponpaa", sum := "64762b8565927754feb7be51a4da98de368eee53eaedb3b071de6b76bb2f5a18", func := "loop.example/g00678/laws.FnExactCutJoin", spec := "fnExactCutJoin", unfollowed := true, recurses := true, apart := false }
def FnExactCutJoinSaid : Prop := fnExactCutJoinRow.holds Try.pinned (OpenSpec.ofChange fnExactCutJoinSpec)

/-- ITS FALSE NEIGHBOUR: 'it returns false'. Refute it at one input. -/
def fnExactCutJoinWrong : ChangeSpec := { name := "fnExactCutJoin", fn := fun _ => fun
  | [d1, d2] => { results := [.lit (.bool false)], args := [d1, d2] }
  | _ => none }
def FnExactCutJoinWrongFalsely : Prop := fnExactCutJoinRow.holds Try.pinned (OpenSpec.ofChange fnExactCutJoinWrong)

/-- 'laws.FnExactPlanRight': WHATEVER THE INPUT: true; the input reads as it did. -/
def fnExactPlanRightSpec : ChangeSpec := { name := "fnExactPlanRight", fn := fun _ => fun
  | [d] => { results := [.lit (.bool true)], args := [d] }
  | _ => none }
def fnExactPlanRightRow : OpenClaim := { program := "ytbiefokigponpaa", sum := "64762b8565927754feb7be51a4da98de368eee53eaedb3b071de6b76bb2f5a18", func := "loop.example/g00678/laws.FnExactPlanRight", spec := "fnExactPlanRight", apart := false }
def FnExactPlanRightSaid : Prop := fnExactPlanRightRow.holds Try.pinned (OpenSpec.ofChange fnExactPlanRightSpec)

/-- ITS FALSE NEIGHBOUR: 'it returns false'. Refute it at one input. -/
def fnExactPlanRightWrong : ChangeSpec := { name := "fnExactPlanRight", fn := fun _ => fun
  | [d] => { results := [.lit (.bool false)], args := [d] }
  | _ => none }
def FnExactPlanRightWrongFalsely : Prop := fnExactPlanRightRow.holds Try.pinned (OpenSpec.ofChange fnExactPlanRightWrong)

/- THE SECOND FORM. 'bulk': how many values and letters a reading holds, each counted each time it is reached (what is shared counts as often as it is met; a slice's spare places count too). A statement '..UptoSaid' is the law's where the arguments, and the package variables that the reading takes, are together of bulk at most 1048576: NARROWER than '..Said'. Prove '..Said' where nothing that the law and all that it calls make is longer than what came in: it says more and counts as full. Else prove '..UptoSaid'. A law counts once. -/
mutual
def uptoBulk {H : Type} : DataW H → Nat
  | .lit (.string bytes) => bytes.length + 1
  | .lit _ => 1
  | .nil => 1
  | .ptr d => uptoBulk d + 1
  | .slice elems spare => uptoBulkAll elems + uptoBulkAll spare + 1
  | .agg parts => uptoBulkAll parts + 1
  | .iface _ d => uptoBulk d + 1
  | .map entries => uptoBulkEntries entries + 1
  | .held _ => 1
def uptoBulkAll {H : Type} : List (DataW H) → Nat
  | [] => 0
  | d :: r => uptoBulk d + uptoBulkAll r
def uptoBulkEntries {H : Type} : List (Lit × DataW H) → Nat
  | [] => 0
  | x :: r => uptoBulkEntry x + uptoBulkEntries r
def uptoBulkEntry {H : Type} : Lit × DataW H → Nat
  | (.string bytes, d) => bytes.length + uptoBulk d + 1
  | (_, d) => uptoBulk d + 1
 end
def uptoSmall : (H : Type) → List (DataW H) → Bool := fun _ ds => decide (uptoBulkAll ds ≤ 1048576)
def OpenSpec.upto (s : _root_.Go.ChangeSpec) : _root_.Go.OpenSpec := { _root_.Go.OpenSpec.ofChange s with cond := some uptoSmall }

/-- 'laws.FnExactItemRight', WHERE WHAT IT READS IS OF BULK AT MOST 1048576: true; the input reads as it did. -/
def fnExactItemRightUptoRow : OpenClaim := { program := "ytbiefokigponpaa", sum := "64762b8565927754feb7be51a4da98de368eee53eaedb3b071de6b76bb2f5a18", func := "loop.example/g00678/laws.FnExactItemRight", spec := "fnExactItemRight", apart := false, narrowed := true }
def FnExactItemRightUptoSaid : Prop := fnExactItemRightUptoRow.holds Try.pinned (OpenSpec.upto fnExactItemRightSpec)

/-- 'laws.FnExactRecRight', WHERE WHAT IT READS IS OF BULK AT MOST 1048576: true; the input reads as it did. -/
def fnExactRecRightUptoRow : OpenClaim := { program := "ytbiefokigponpaa", sum := "64762b8565927754feb7be51a4da98de368eee53eaedb3b071de6b76bb2f5a18", func := "loop.example/g00678/laws.FnExactRecRight", spec := "fnExactRecRight", apart := false, narrowed := true }
def FnExactRecRightUptoSaid : Prop := fnExactRecRightUptoRow.holds Try.pinned (OpenSpec.upto fnExactRecRightSpec)

/-- 'laws.FnExactCutMeet', WHERE WHAT IT READS IS OF BULK AT MOST 1048576: true; the input reads as it did. -/
def fnExactCutMeetUptoRow : OpenClaim := { program := "ytbiefokigponpaa", sum := "64762b8565927754feb7be51a4da98de368eee53eaedb3b071de6b76bb2f5a18", func := "loop.example/g00678/laws.FnExactCutMeet", spec := "fnExactCutMeet", unfollowed := true, recurses := true, apart := false, narrowed := true }
def FnExactCutMeetUptoSaid : Prop := fnExactCutMeetUptoRow.holds Try.pinned (OpenSpec.upto fnExactCutMeetSpec)

/-- 'laws.FnExactCutJoin', WHERE WHAT IT READS IS OF BULK AT MOST 1048576: true; the input reads as it did. -/
def fnExactCutJoinUptoRow : OpenClaim := { program := "ytbiefokigponpaa", sum := "64762b8565927754feb7be51a4da98de368eee53eaedb3b071de6b76bb2f5a18", func := "loop.example/g00678/laws.FnExactCutJoin", spec := "fnExactCutJoin", unfollowed := true, recurses := true, apart := false, narrowed := true }
def FnExactCutJoinUptoSaid : Prop := fnExactCutJoinUptoRow.holds Try.pinned (OpenSpec.upto fnExactCutJoinSpec)

/-- 'laws.FnExactPlanRight', WHERE WHAT IT READS IS OF BULK AT MOST 1048576: true; the input reads as it did. -/
def fnExactPlanRightUptoRow : OpenClaim := { program := "ytbiefokigponpaa", sum := "64762b8565927754feb7be51a4da98de368eee53eaedb3b071de6b76bb2f5a18", func := "loop.example/g00678/laws.FnExactPlanRight", spec := "fnExactPlanRight", apart := false, narrowed := true }
def FnExactPlanRightUptoSaid : Prop := fnExactPlanRightUptoRow.holds Try.pinned (OpenSpec.upto fnExactPlanRightSpec)

end Rows
end Go.Proofs.Ytbiefokigponpaa
