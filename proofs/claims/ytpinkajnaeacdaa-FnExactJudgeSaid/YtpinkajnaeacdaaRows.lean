/-
  No cell of these rows narrows 'for every input' (looked for: loops, veiled, ifaces, maps, wideKeys, modest, calm, conditions, laid).
  DERIVED. THE GIVEN ROWS OF THIS SEAT. 12 by the template 'for every input the law returns true; each argument reads behind the call as it read before'; 0 by the template 'total and deterministic' (their statements: YtpinkajnaeacdaaTotals.lean).
  GIVEN WITH THE SEED: the statements are not yours to turn. If you find one false, say at which input.
  Laid BY PROGRAM, IN A SANDBOX (cutbox-rows.mjs): the forced cells as the released guide's own fill.sh prints them over the translation d61efd4300dbce54… (all of the seat's roots in one cut). By AI agents, Wed Nov 11 2026. No macro, syntax, notation, axiom, sorry.
-/
import Derived.Test.YtpinkajnaeacdaaChecked
import GoSem.Claim
import GoSem.ClaimJoined
import GoSem.ClaimMapViews
import Derived.JoinedTies
import Derived.KernelRfl
namespace Go.Proofs.Ytpinkajnaeacdaa
/- THE CELL 'sum', in the pinned program and in every row, IS THE sha256 OF THE DUMP (.gsa) THAT YtpinkajnaeacdaaProg.lean LOADS. Nothing in Lean hashes anything: it is a label: what it is worth is what the hold of that sum in a sandbox is worth. -/
noncomputable def Try.pinned : Pinned := { name := "ytpinkajnaeacdaa", sum := "d61efd4300dbce54d333212cc83dcb71898334834f24bfd612f1e7e2e526a8df", checked := Try.checked }
namespace Rows
def none {H : Type} : Left H := { results := [], args := [] }

/-- 'laws.FnExactAnswered': WHATEVER THE INPUT: true; the input reads as it did. -/
def fnExactAnsweredSpec : ChangeSpec := { name := "fnExactAnswered", fn := fun _ => fun
  | [d] => { results := [.lit (.bool true)], args := [d] }
  | _ => none }
def fnExactAnsweredRow : OpenClaim := { program := "ytpinkajnaeacdaa", sum := "d61efd4300dbce54d333212cc83dcb71898334834f24bfd612f1e7e2e526a8df", func := "loop.example/g00678/laws.FnExactAnswered", spec := "fnExactAnswered", unfollowed := true, recurses := true, apart := false }
def FnExactAnsweredSaid : Prop := fnExactAnsweredRow.holds Try.pinned (OpenSpec.ofChange fnExactAnsweredSpec)

/-- ITS FALSE NEIGHBOUR: 'it returns false'. Refute it at one input. -/
def fnExactAnsweredWrong : ChangeSpec := { name := "fnExactAnswered", fn := fun _ => fun
  | [d] => { results := [.lit (.bool false)], args := [d] }
  | _ => none }
def FnExactAnsweredWrongFalsely : Prop := fnExactAnsweredRow.holds Try.pinned (OpenSpec.ofChange fnExactAnsweredWrong)

/-- 'laws.FnExactRecBytes': WHATEVER THE INPUT: true; the input reads as it did. -/
def fnExactRecBytesSpec : ChangeSpec := { name := "fnExactRecBytes", fn := fun _ => fun
  | [d] => { results := [.lit (.bool true)], args := [d] }
  | _ => none }
def fnExactRecBytesRow : OpenClaim := { program := "ytpinkajnaeacdaa", sum := "d61efd4300dbce54d333212cc83dcb71898334834f24bfd612f1e7e2e526a8df", func := "loop.example/g00678/laws.FnExactRecBytes", spec := "fnExactRecBytes", apart := false }
def FnExactRecBytesSaid : Prop := fnExactRecBytesRow.holds Try.pinned (OpenSpec.ofChange fnExactRecBytesSpec)

/-- ITS FALSE NEIGHBOUR: 'it returns false'. Refute it at one input. -/
def fnExactRecBytesWrong : ChangeSpec := { name := "fnExactRecBytes", fn := fun _ => fun
  | [d] => { results := [.lit (.bool false)], args := [d] }
  | _ => none }
def FnExactRecBytesWrongFalsely : Prop := fnExactRecBytesRow.holds Try.pinned (OpenSpec.ofChange fnExactRecBytesWrong)

/-- 'laws.FnExactAhead': WHATEVER THE INPUT: true; the input reads as it did. -/
def fnExactAheadSpec : ChangeSpec := { name := "fnExactAhead", fn := fun _ => fun
  | [d1, d2, d3] => { results := [.lit (.bool true)], args := [d1, d2, d3] }
  | _ => none }
def fnExactAheadRow : OpenClaim := { program := "ytpinkajnaeacdaa", sum := "d61efd4300dbce54d333212cc83dcb71898334834f24bfd612f1e7e2e526a8df", func := "loop.example/g00678/laws.FnExactAhead", spec := "fnExactAhead", unfollowed := true, recurses := true, apart := false }
def FnExactAheadSaid : Prop := fnExactAheadRow.holds Try.pinned (OpenSpec.ofChange fnExactAheadSpec)

/-- ITS FALSE NEIGHBOUR: 'it returns false'. Refute it at one input. -/
def fnExactAheadWrong : ChangeSpec := { name := "fnExactAhead", fn := fun _ => fun
  | [d1, d2, d3] => { results := [.lit (.bool false)], args := [d1, d2, d3] }
  | _ => none }
def FnExactAheadWrongFalsely : Prop := fnExactAheadRow.holds Try.pinned (OpenSpec.ofChange fnExactAheadWrong)

/-- 'laws.FnExactBeside': WHATEVER THE INPUT: true; the input reads as it did. -/
def fnExactBesideSpec : ChangeSpec := { name := "fnExactBeside", fn := fun _ => fun
  | [d1, d2, d3] => { results := [.lit (.bool true)], args := [d1, d2, d3] }
  | _ => none }
def fnExactBesideRow : OpenClaim := { program := "ytpinkajnaeacdaa", sum := "d61efd4300dbce54d333212cc83dcb71898334834f24bfd612f1e7e2e526a8df", func := "loop.example/g00678/laws.FnExactBeside", spec := "fnExactBeside", unfollowed := true, recurses := true, apart := false }
def FnExactBesideSaid : Prop := fnExactBesideRow.holds Try.pinned (OpenSpec.ofChange fnExactBesideSpec)

/-- ITS FALSE NEIGHBOUR: 'it returns false'. Refute it at one input. -/
def fnExactBesideWrong : ChangeSpec := { name := "fnExactBeside", fn := fun _ => fun
  | [d1, d2, d3] => { results := [.lit (.bool false)], args := [d1, d2, d3] }
  | _ => none }
def FnExactBesideWrongFalsely : Prop := fnExactBesideRow.holds Try.pinned (OpenSpec.ofChange fnExactBesideWrong)

/-- 'laws.FnExactLiving': WHATEVER THE INPUT: true; the input reads as it did. -/
def fnExactLivingSpec : ChangeSpec := { name := "fnExactLiving", fn := fun _ => fun
  | [d] => { results := [.lit (.bool true)], args := [d] }
  | _ => none }
def fnExactLivingRow : OpenClaim := { program := "ytpinkajnaeacdaa", sum := "d61efd4300dbce54d333212cc83dcb71898334834f24bfd612f1e7e2e526a8df", func := "loop.example/g00678/laws.FnExactLiving", spec := "fnExactLiving", unfollowed := true, recurses := true, apart := false }
def FnExactLivingSaid : Prop := fnExactLivingRow.holds Try.pinned (OpenSpec.ofChange fnExactLivingSpec)

/-- ITS FALSE NEIGHBOUR: 'it returns false'. Refute it at one input. -/
def fnExactLivingWrong : ChangeSpec := { name := "fnExactLiving", fn := fun _ => fun
  | [d] => { results := [.lit (.bool false)], args := [d] }
  | _ => none }
def FnExactLivingWrongFalsely : Prop := fnExactLivingRow.holds Try.pinned (OpenSpec.ofChange fnExactLivingWrong)

/-- 'laws.FnExactRecsBytes': WHATEVER THE INPUT: true; the input reads as it did. -/
def fnExactRecsBytesSpec : ChangeSpec := { name := "fnExactRecsBytes", fn := fun _ => fun
  | [d] => { results := [.lit (.bool true)], args := [d] }
  | _ => none }
def fnExactRecsBytesRow : OpenClaim := { program := "ytpinkajnaeacdaa", sum := "d61efd4300dbce54d333212cc83dcb71898334834f24bfd612f1e7e2e526a8df", func := "loop.example/g00678/laws.FnExactRecsBytes", spec := "fnExactRecsBytes", unfollowed := true, recurses := true, apart := false }
def FnExactRecsBytesSaid : Prop := fnExactRecsBytesRow.holds Try.pinned (OpenSpec.ofChange fnExactRecsBytesSpec)

/-- ITS FALSE NEIGHBOUR: 'it returns false'. Refute it at one input. -/
def fnExactRecsBytesWrong : ChangeSpec := { name := "fnExactRecsBytes", fn := fun _ => fun
  | [d] => { results := [.lit (.bool false)], args := [d] }
  | _ => none }
def FnExactRecsBytesWrongFalsely : Prop := fnExactRecsBytesRow.holds Try.pinned (OpenSpec.ofChange fnExactRecsBytesWrong)

/-- 'laws.FnExactOrder': WHATEVER THE INPUT: true; the input reads as it did. -/
def fnExactOrderSpec : ChangeSpec := { name := "fnExactOrder", fn := fun _ => fun
  | [d] => { results := [.lit (.bool true)], args := [d] }
  | _ => none }
def fnExactOrderRow : OpenClaim := { program := "ytpinkajnaeacdaa", sum := "d61efd4300dbce54d333212cc83dcb71898334834f24bfd612f1e7e2e526a8df", func := "loop.example/g00678/laws.FnExactOrder", spec := "fnExactOrder", unfollowed := true, recurses := true, apart := false }
def FnExactOrderSaid : Prop := fnExactOrderRow.holds Try.pinned (OpenSpec.ofChange fnExactOrderSpec)

/-- ITS FALSE NEIGHBOUR: 'it returns false'. Refute it at one input. -/
def fnExactOrderWrong : ChangeSpec := { name := "fnExactOrder", fn := fun _ => fun
  | [d] => { results := [.lit (.bool false)], args := [d] }
  | _ => none }
def FnExactOrderWrongFalsely : Prop := fnExactOrderRow.holds Try.pinned (OpenSpec.ofChange fnExactOrderWrong)

/-- 'laws.FnExactPastOf': WHATEVER THE INPUT: true; the input reads as it did. -/
def fnExactPastOfSpec : ChangeSpec := { name := "fnExactPastOf", fn := fun _ => fun
  | [d1, d2] => { results := [.lit (.bool true)], args := [d1, d2] }
  | _ => none }
def fnExactPastOfRow : OpenClaim := { program := "ytpinkajnaeacdaa", sum := "d61efd4300dbce54d333212cc83dcb71898334834f24bfd612f1e7e2e526a8df", func := "loop.example/g00678/laws.FnExactPastOf", spec := "fnExactPastOf", unfollowed := true, recurses := true, apart := false }
def FnExactPastOfSaid : Prop := fnExactPastOfRow.holds Try.pinned (OpenSpec.ofChange fnExactPastOfSpec)

/-- ITS FALSE NEIGHBOUR: 'it returns false'. Refute it at one input. -/
def fnExactPastOfWrong : ChangeSpec := { name := "fnExactPastOf", fn := fun _ => fun
  | [d1, d2] => { results := [.lit (.bool false)], args := [d1, d2] }
  | _ => none }
def FnExactPastOfWrongFalsely : Prop := fnExactPastOfRow.holds Try.pinned (OpenSpec.ofChange fnExactPastOfWrong)

/-- 'laws.FnExactFits': WHATEVER THE INPUT: true; the input reads as it did. -/
def fnExactFitsSpec : ChangeSpec := { name := "fnExactFits", fn := fun _ => fun
  | [d1, d2] => { results := [.lit (.bool true)], args := [d1, d2] }
  | _ => none }
def fnExactFitsRow : OpenClaim := { program := "ytpinkajnaeacdaa", sum := "d61efd4300dbce54d333212cc83dcb71898334834f24bfd612f1e7e2e526a8df", func := "loop.example/g00678/laws.FnExactFits", spec := "fnExactFits", unfollowed := true, recurses := true, apart := false }
def FnExactFitsSaid : Prop := fnExactFitsRow.holds Try.pinned (OpenSpec.ofChange fnExactFitsSpec)

/-- ITS FALSE NEIGHBOUR: 'it returns false'. Refute it at one input. -/
def fnExactFitsWrong : ChangeSpec := { name := "fnExactFits", fn := fun _ => fun
  | [d1, d2] => { results := [.lit (.bool false)], args := [d1, d2] }
  | _ => none }
def FnExactFitsWrongFalsely : Prop := fnExactFitsRow.holds Try.pinned (OpenSpec.ofChange fnExactFitsWrong)

/-- 'laws.FnExactViewFrom': WHATEVER THE INPUT: true; the input reads as it did. -/
def fnExactViewFromSpec : ChangeSpec := { name := "fnExactViewFrom", fn := fun _ => fun
  | [d1, d2] => { results := [.lit (.bool true)], args := [d1, d2] }
  | _ => none }
def fnExactViewFromRow : OpenClaim := { program := "ytpinkajnaeacdaa", sum := "d61efd4300dbce54d333212cc83dcb71898334834f24bfd612f1e7e2e526a8df", func := "loop.example/g00678/laws.FnExactViewFrom", spec := "fnExactViewFrom", inPlace := ["slices.overlaps[loop.example/g00678/impl.Fact]"], unfollowed := true, recurses := true, apart := false }
def FnExactViewFromSaid : Prop := fnExactViewFromRow.holds Try.pinned (OpenSpec.ofChange fnExactViewFromSpec)

/-- ITS FALSE NEIGHBOUR: 'it returns false'. Refute it at one input. -/
def fnExactViewFromWrong : ChangeSpec := { name := "fnExactViewFrom", fn := fun _ => fun
  | [d1, d2] => { results := [.lit (.bool false)], args := [d1, d2] }
  | _ => none }
def FnExactViewFromWrongFalsely : Prop := fnExactViewFromRow.holds Try.pinned (OpenSpec.ofChange fnExactViewFromWrong)

/-- 'laws.FnExactShows': WHATEVER THE INPUT: true; the input reads as it did. -/
def fnExactShowsSpec : ChangeSpec := { name := "fnExactShows", fn := fun _ => fun
  | [d1, d2, d3] => { results := [.lit (.bool true)], args := [d1, d2, d3] }
  | _ => none }
def fnExactShowsRow : OpenClaim := { program := "ytpinkajnaeacdaa", sum := "d61efd4300dbce54d333212cc83dcb71898334834f24bfd612f1e7e2e526a8df", func := "loop.example/g00678/laws.FnExactShows", spec := "fnExactShows", unfollowed := true, recurses := true, apart := false }
def FnExactShowsSaid : Prop := fnExactShowsRow.holds Try.pinned (OpenSpec.ofChange fnExactShowsSpec)

/-- ITS FALSE NEIGHBOUR: 'it returns false'. Refute it at one input. -/
def fnExactShowsWrong : ChangeSpec := { name := "fnExactShows", fn := fun _ => fun
  | [d1, d2, d3] => { results := [.lit (.bool false)], args := [d1, d2, d3] }
  | _ => none }
def FnExactShowsWrongFalsely : Prop := fnExactShowsRow.holds Try.pinned (OpenSpec.ofChange fnExactShowsWrong)

/-- 'laws.FnExactJudge': WHATEVER THE INPUT: true; the input reads as it did. -/
def fnExactJudgeSpec : ChangeSpec := { name := "fnExactJudge", fn := fun _ => fun
  | [d] => { results := [.lit (.bool true)], args := [d] }
  | _ => none }
def fnExactJudgeRow : OpenClaim := { program := "ytpinkajnaeacdaa", sum := "d61efd4300dbce54d333212cc83dcb71898334834f24bfd612f1e7e2e526a8df", func := "loop.example/g00678/laws.FnExactJudge", spec := "fnExactJudge", unfollowed := true, recurses := true, apart := false }
def FnExactJudgeSaid : Prop := fnExactJudgeRow.holds Try.pinned (OpenSpec.ofChange fnExactJudgeSpec)

/-- ITS FALSE NEIGHBOUR: 'it returns false'. Refute it at one input. -/
def fnExactJudgeWrong : ChangeSpec := { name := "fnExactJudge", fn := fun _ => fun
  | [d] => { results := [.lit (.bool false)], args := [d] }
  | _ => none }
def FnExactJudgeWrongFalsely : Prop := fnExactJudgeRow.holds Try.pinned (OpenSpec.ofChange fnExactJudgeWrong)

/- THE SECOND FORM. 'bulk': how many values and letters a reading holds, each counted each time it is reached (what is shared counts as often as it is met; a slice's spare places count too). A statement '..UptoSaid' is the law's where the arguments, and the package variables that the reading takes, are together of bulk at most 1048576: NARROWER than '..Said'. Prove '..Said' where nothing that the law and all that it calls make is longer than what came in: it says more and counts as full. Else prove '..UptoSaid'. A law counts once. -/
mutual
def uptoBulk {H : Type} : DataW H → Nat
  | .lit (.string bytes) => bytes.length + 1
  | .lit _ => 1
  | .nil => 1
  | .ptr d => uptoBulk d + 1
  | .slice elems spare => uptoBulkAll elems + uptoBulkAll spare + 1
  | .agg parts => uptoBulkAll parts + 1
  | .iface _ d => uptoBulk d + 1
  | .map entries => uptoBulkEntries entries + 1
  | .held _ => 1
def uptoBulkAll {H : Type} : List (DataW H) → Nat
  | [] => 0
  | d :: r => uptoBulk d + uptoBulkAll r
def uptoBulkEntries {H : Type} : List (Lit × DataW H) → Nat
  | [] => 0
  | x :: r => uptoBulkEntry x + uptoBulkEntries r
def uptoBulkEntry {H : Type} : Lit × DataW H → Nat
  | (.string bytes, d) => bytes.length + uptoBulk d + 1
  | (_, d) => uptoBulk d + 1
 end
def uptoSmall : (H : Type) → List (DataW H) → Bool := fun _ ds => decide (uptoBulkAll ds ≤ 1048576)
def OpenSpec.upto (s : _root_.Go.ChangeSpec) : _root_.Go.OpenSpec := { _root_.Go.OpenSpec.ofChange s with cond := some uptoSmall }

/-- 'laws.FnExactAnswered', WHERE WHAT IT READS IS OF BULK AT MOST 1048576: true; the input reads as it did. -/
def fnExactAnsweredUptoRow : OpenClaim := { program := "ytpinkajnaeacdaa", sum := "d61efd4300dbce54d333212cc83dcb71898334834f24bfd612f1e7e2e526a8df", func := "loop.example/g00678/laws.FnExactAnswered", spec := "fnExactAnswered", unfollowed := true, recurses := true, apart := false, narrowed := true }
def FnExactAnsweredUptoSaid : Prop := fnExactAnsweredUptoRow.holds Try.pinned (OpenSpec.upto fnExactAnsweredSpec)

/-- 'laws.FnExactRecBytes', WHERE WHAT IT READS IS OF BULK AT MOST 1048576: true; the input reads as it did. -/
def fnExactRecBytesUptoRow : OpenClaim := { program := "ytpinkajnaeacdaa", sum := "d61efd4300dbce54d333212cc83dcb71898334834f24bfd612f1e7e2e526a8df", func := "loop.example/g00678/laws.FnExactRecBytes", spec := "fnExactRecBytes", apart := false, narrowed := true }
def FnExactRecBytesUptoSaid : Prop := fnExactRecBytesUptoRow.holds Try.pinned (OpenSpec.upto fnExactRecBytesSpec)

/-- 'laws.FnExactAhead', WHERE WHAT IT READS IS OF BULK AT MOST 1048576: true; the input reads as it did. -/
def fnExactAheadUptoRow : OpenClaim := { program := "ytpinkajnaeacdaa", sum := "d61efd4300dbce54d333212cc83dcb71898334834f24bfd612f1e7e2e526a8df", func := "loop.example/g00678/laws.FnExactAhead", spec := "fnExactAhead", unfollowed := true, recurses := true, apart := false, narrowed := true }
def FnExactAheadUptoSaid : Prop := fnExactAheadUptoRow.holds Try.pinned (OpenSpec.upto fnExactAheadSpec)

/-- 'laws.FnExactBeside', WHERE WHAT IT READS IS OF BULK AT MOST 1048576: true; the input reads as it did. -/
def fnExactBesideUptoRow : OpenClaim := { program := "ytpinkajnaeacdaa", sum := "d61efd4300dbce54d333212cc83dcb71898334834f24bfd612f1e7e2e526a8df", func := "loop.example/g00678/laws.FnExactBeside", spec := "fnExactBeside", unfollowed := true, recurses := true, apart := false, narrowed := true }
def FnExactBesideUptoSaid : Prop := fnExactBesideUptoRow.holds Try.pinned (OpenSpec.upto fnExactBesideSpec)

/-- 'laws.FnExactLiving', WHERE WHAT IT READS IS OF BULK AT MOST 1048576: true; the input reads as it did. -/
def fnExactLivingUptoRow : OpenClaim := { program := "ytpinkajnaeacdaa", sum := "d61efd4300dbce54d333212cc83dcb71898334834f24bfd612f1e7e2e526a8df", func := "loop.example/g00678/laws.FnExactLiving", spec := "fnExactLiving", unfollowed := true, recurses := true, apart := false, narrowed := true }
def FnExactLivingUptoSaid : Prop := fnExactLivingUptoRow.holds Try.pinned (OpenSpec.upto fnExactLivingSpec)

/-- 'laws.FnExactRecsBytes', WHERE WHAT IT READS IS OF BULK AT MOST 1048576: true; the input reads as it did. -/
def fnExactRecsBytesUptoRow : OpenClaim := { program := "ytpinkajnaeacdaa", sum := "d61efd4300dbce54d333212cc83dcb71898334834f24bfd612f1e7e2e526a8df", func := "loop.example/g00678/laws.FnExactRecsBytes", spec := "fnExactRecsBytes", unfollowed := true, recurses := true, apart := false, narrowed := true }
def FnExactRecsBytesUptoSaid : Prop := fnExactRecsBytesUptoRow.holds Try.pinned (OpenSpec.upto fnExactRecsBytesSpec)

/-- 'laws.FnExactOrder', WHERE WHAT IT READS IS OF BULK AT MOST 1048576: true; the input reads as it did. -/
def fnExactOrderUptoRow : OpenClaim := { program := "ytpinkajnaeacdaa", sum := "d61efd4300dbce54d333212cc83dcb71898334834f24bfd612f1e7e2e526a8df", func := "loop.example/g00678/laws.FnExactOrder", spec := "fnExactOrder", unfollowed := true, recurses := true, apart := false, narrowed := true }
def FnExactOrderUptoSaid : Prop := fnExactOrderUptoRow.holds Try.pinned (OpenSpec.upto fnExactOrderSpec)

/-- 'laws.FnExactPastOf', WHERE WHAT IT READS IS OF BULK AT MOST 1048576: true; the input reads as it did. -/
def fnExactPastOfUptoRow : OpenClaim := { program := "ytpinkajnaeacdaa", sum := "d61efd4300dbce54d333212cc83dcb71898334834f24bfd612f1e7e2e526a8df", func := "loop.example/g00678/laws.FnExactPastOf", spec := "fnExactPastOf", unfollowed := true, recurses := true, apart := false, narrowed := true }
def FnExactPastOfUptoSaid : Prop := fnExactPastOfUptoRow.holds Try.pinned (OpenSpec.upto fnExactPastOfSpec)

/-- 'laws.FnExactFits', WHERE WHAT IT READS IS OF BULK AT MOST 1048576: true; the input reads as it did. -/
def fnExactFitsUptoRow : OpenClaim := { program := "ytpinkajnaeacdaa", sum := "d61efd4300dbce54d333212cc83dcb71898334834f24bfd612f1e7e2e526a8df", func := "loop.example/g00678/laws.FnExactFits", spec := "fnExactFits", unfollowed := true, recurses := true, apart := false, narrowed := true }
def FnExactFitsUptoSaid : Prop := fnExactFitsUptoRow.holds Try.pinned (OpenSpec.upto fnExactFitsSpec)

/-- 'laws.FnExactViewFrom', WHERE WHAT IT READS IS OF BULK AT MOST 1048576: true; the input reads as it did. -/
def fnExactViewFromUptoRow : OpenClaim := { program := "ytpinkajnaeacdaa", sum := "d61efd4300dbce54d333212cc83dcb71898334834f24bfd612f1e7e2e526a8df", func := "loop.example/g00678/laws.FnExactViewFrom", spec := "fnExactViewFrom", inPlace := ["slices.overlaps[loop.example/g00678/impl.Fact]"], unfollowed := true, recurses := true, apart := false, narrowed := true }
def FnExactViewFromUptoSaid : Prop := fnExactViewFromUptoRow.holds Try.pinned (OpenSpec.upto fnExactViewFromSpec)

/-- 'laws.FnExactShows', WHERE WHAT IT READS IS OF BULK AT MOST 1048576: true; the input reads as it did. -/
def fnExactShowsUptoRow : OpenClaim := { program := "ytpinkajnaeacdaa", sum := "d61efd4300dbce54d333212cc83dcb71898334834f24bfd612f1e7e2e526a8df", func := "loop.example/g00678/laws.FnExactShows", spec := "fnExactShows", unfollowed := true, recurses := true, apart := false, narrowed := true }
def FnExactShowsUptoSaid : Prop := fnExactShowsUptoRow.holds Try.pinned (OpenSpec.upto fnExactShowsSpec)

/-- 'laws.FnExactJudge', WHERE WHAT IT READS IS OF BULK AT MOST 1048576: true; the input reads as it did. -/
def fnExactJudgeUptoRow : OpenClaim := { program := "ytpinkajnaeacdaa", sum := "d61efd4300dbce54d333212cc83dcb71898334834f24bfd612f1e7e2e526a8df", func := "loop.example/g00678/laws.FnExactJudge", spec := "fnExactJudge", unfollowed := true, recurses := true, apart := false, narrowed := true }
def FnExactJudgeUptoSaid : Prop := fnExactJudgeUptoRow.holds Try.pinned (OpenSpec.upto fnExactJudgeSpec)

end Rows
end Go.Proofs.Ytpinkajnaeacdaa
