/- Plain data of the program (structures of whole numbers, texts and lists), and the values of a small machine that reads Go's values as data. No program stands here. -/
import Derived.Calls
import Derived.RowKit3
import Derived.KernelRfl
namespace Go.Proofs.Ytnghlmogcbmlfaa
set_option linter.unusedVariables false
set_option linter.unusedSimpArgs false

structure Fact where
  node : Int
  inc : Int
  status : Int
  deriving DecidableEq, Inhabited

structure Rumor where
  fact : Fact
  sent : Int
  deriving DecidableEq, Inhabited

structure Doubt where
  node : Int
  inc : Int
  due : Int
  deriving DecidableEq, Inhabited

structure Item where
  kind : Int
  at_ : Int
  a : Int
  b : Int
  deriving DecidableEq, Inhabited

structure Rec where
  at_ : Int
  node : Int
  kind : Int
  a : Int
  b : Int
  c : Int
  deriving DecidableEq, Inhabited

structure Due where
  at_ : Int
  seq : Int
  node : Int
  text : ByteArray
  deriving Inhabited

structure Mail where
  kind : Int
  from_ : Int
  to : Int
  num : Int
  about : Int
  for_ : Int
  facts : List Fact
  deriving DecidableEq, Inhabited

structure Node where
  id : Int
  inc : Int
  num : Int
  seed : Int
  next : Int
  view : List Fact
  rumors : List Rumor
  turnList : List Int
  turnAt : Int
  pNode : Int
  pNum : Int
  pDue : Int
  pAsked : Bool
  doubts : List Doubt
  deriving DecidableEq, Inhabited

/-- The kinds of what a slice may hold. -/
inductive Kd where
  | int | u8 | bool | str | fact | rumor | doubt | item | rcd | due | mail | node | ints | bools | recs
  deriving DecidableEq, Inhabited

/-- The data of a kind. -/
@[reducible] def T : Kd → Type
  | .int => Int
  | .u8 => UInt8
  | .bool => Bool
  | .str => ByteArray
  | .fact => Fact
  | .rumor => Rumor
  | .doubt => Doubt
  | .item => Item
  | .rcd => Rec
  | .due => Due
  | .mail => Mail
  | .node => Node
  | .ints => List Int
  | .bools => List Bool
  | .recs => List Rec

/-- A value of the small machine. -/
inductive AV : Type where
  | undef
  | junk
  | bool (b : Bool)
  | int (k : IntKind) (n : Int)
  | str (s : ByteArray)
  | nil
  | err (e : Bool)
  | sl (k : Kd) (l : List (T k))
  | own (k : Kd) (l : List (T k))
  | mrow (k : Kd) (l : List (T k))
  | box (cs : List AV)
  | agg (cs : List AV)
  | tup (cs : List AV)
  | ip (cs : List AV) (off : Nat)
  | ptr (id off : Nat)
  | rp (id v i off : Nat)
  | ms (id v lo len : Nat)
  | fn (f : FuncId) (cap : List AV)

/-- How many cells an element takes. -/
def wid : Kd → Nat
  | .int | .u8 | .bool | .str | .ints | .bools | .recs => 1
  | .fact | .doubt => 3
  | .rumor | .item | .due => 4
  | .rcd => 6
  | .mail => 7
  | .node => 14

/-- The cells of an element. -/
def enc : (k : Kd) → T k → List AV
  | .int, n => [.int .i64 n]
  | .u8, b => [.int .u8 b.toNat]
  | .bool, b => [.bool b]
  | .str, s => [.str s]
  | .fact, f => [.int .i64 f.node, .int .i64 f.inc, .int .i64 f.status]
  | .rumor, r => [.int .i64 r.fact.node, .int .i64 r.fact.inc, .int .i64 r.fact.status, .int .i64 r.sent]
  | .doubt, d => [.int .i64 d.node, .int .i64 d.inc, .int .i64 d.due]
  | .item, x => [.int .i64 x.kind, .int .i64 x.at_, .int .i64 x.a, .int .i64 x.b]
  | .rcd, r => [.int .i64 r.at_, .int .i64 r.node, .int .i64 r.kind, .int .i64 r.a, .int .i64 r.b, .int .i64 r.c]
  | .due, d => [.int .i64 d.at_, .int .i64 d.seq, .int .i64 d.node, .str d.text]
  | .mail, m => [.int .i64 m.kind, .int .i64 m.from_, .int .i64 m.to, .int .i64 m.num, .int .i64 m.about, .int .i64 m.for_, .sl .fact m.facts]
  | .node, n => [.int .i64 n.id, .int .i64 n.inc, .int .i64 n.num, .int .i64 n.seed, .int .i64 n.next, .sl .fact n.view, .sl .rumor n.rumors, .sl .int n.turnList, .int .i64 n.turnAt, .int .i64 n.pNode, .int .i64 n.pNum, .int .i64 n.pDue, .bool n.pAsked, .sl .doubt n.doubts]
  | .ints, l => [.sl .int l]
  | .bools, l => [.sl .bool l]
  | .recs, l => [.sl .rcd l]

/-- The element of which these are the cells. -/
def dec (k : Kd) (cs : List AV) : Option (T k) :=
  match k with
  | .int => match cs with
    | [.int .i64 n] => some n
    | _ => none
  | .u8 => match cs with
    | [.int .u8 n] => if 0 ≤ n ∧ n < 256 then some (UInt8.ofNat n.toNat) else none
    | _ => none
  | .bool => match cs with
    | [.bool b] => some b
    | _ => none
  | .str => match cs with
    | [.str s] => some s
    | _ => none
  | .fact => match cs with
    | [.int .i64 a, .int .i64 b, .int .i64 c] => some ⟨a, b, c⟩
    | _ => none
  | .rumor => match cs with
    | [.int .i64 a, .int .i64 b, .int .i64 c, .int .i64 d] => some ⟨⟨a, b, c⟩, d⟩
    | _ => none
  | .doubt => match cs with
    | [.int .i64 a, .int .i64 b, .int .i64 c] => some ⟨a, b, c⟩
    | _ => none
  | .item => match cs with
    | [.int .i64 a, .int .i64 b, .int .i64 c, .int .i64 d] => some ⟨a, b, c, d⟩
    | _ => none
  | .rcd => match cs with
    | [.int .i64 a, .int .i64 b, .int .i64 c, .int .i64 d, .int .i64 e, .int .i64 f] => some ⟨a, b, c, d, e, f⟩
    | _ => none
  | .due => match cs with
    | [.int .i64 a, .int .i64 b, .int .i64 c, .str s] => some ⟨a, b, c, s⟩
    | _ => none
  | .mail => match cs with
    | [.int .i64 a, .int .i64 b, .int .i64 c, .int .i64 d, .int .i64 e, .int .i64 f, .sl .fact l] => some ⟨a, b, c, d, e, f, l⟩
    | _ => none
  | .node => match cs with
    | [.int .i64 a, .int .i64 b, .int .i64 c, .int .i64 d, .int .i64 e, .sl .fact v, .sl .rumor r, .sl .int tl, .int .i64 ta, .int .i64 pn, .int .i64 pm, .int .i64 pd, .bool pa, .sl .doubt ds] => some ⟨a, b, c, d, e, v, r, tl, ta, pn, pm, pd, pa, ds⟩
    | _ => none
  | .ints => match cs with
    | [.sl .int l] => some l
    | _ => none
  | .bools => match cs with
    | [.sl .bool l] => some l
    | _ => none
  | .recs => match cs with
    | [.sl .rcd l] => some l
    | _ => none

/-- A list of one kind, as one of another kind, if the kinds are one. -/
def castK : (k k' : Kd) → List (T k') → Option (List (T k))
  | .int, .int, l => some l
  | .u8, .u8, l => some l
  | .bool, .bool, l => some l
  | .str, .str, l => some l
  | .fact, .fact, l => some l
  | .rumor, .rumor, l => some l
  | .doubt, .doubt, l => some l
  | .item, .item, l => some l
  | .rcd, .rcd, l => some l
  | .due, .due, l => some l
  | .mail, .mail, l => some l
  | .node, .node, l => some l
  | .ints, .ints, l => some l
  | .bools, .bools, l => some l
  | .recs, .recs, l => some l
  | _, _, _ => none

theorem castK_some {k k' : Kd} {l : List (T k')} {m : List (T k)} (h : castK k k' l = some m) : ∃ e : k = k', e ▸ m = l := by
  cases k <;> cases k' <;> simp [castK] at h <;> exact ⟨rfl, h.symm⟩

theorem enc_length (k : Kd) (x : T k) : (enc k x).length = wid k := by cases k <;> rfl

theorem wid_pos (k : Kd) : 0 < wid k := by cases k <;> decide

/-- A whole number of a kind, in its bounds. -/
def InK (k : IntKind) (n : Int) : Prop := k.min ≤ n ∧ n ≤ k.max

def zeroK : (k : Kd) → T k
  | .int => (0 : Int)
  | .u8 => (0 : UInt8)
  | .bool => false
  | .str => ByteArray.empty
  | .fact => Fact.mk 0 0 0
  | .rumor => Rumor.mk ⟨0, 0, 0⟩ 0
  | .doubt => Doubt.mk 0 0 0
  | .item => Item.mk 0 0 0 0
  | .rcd => Rec.mk 0 0 0 0 0 0
  | .due => Due.mk 0 0 0 ByteArray.empty
  | .mail => Mail.mk 0 0 0 0 0 0 []
  | .node => Node.mk 0 0 0 0 0 [] [] [] 0 0 0 0 false []
  | .ints => ([] : List Int)
  | .bools => ([] : List Bool)
  | .recs => ([] : List Rec)

end Go.Proofs.Ytnghlmogcbmlfaa
