/- The small machine: instructions over values that are read as data, memory that one call alone writes, and what must hold ahead of a code so that a statement holds behind it. No program stands here. -/
import Derived.Test.YtnghlmogcbmlfaaAmA
namespace Go.Proofs.Ytnghlmogcbmlfaa
set_option linter.unusedVariables false
set_option linter.unusedSimpArgs false

/-- A block that the running call alone writes: given up, cells of a variable, or a slice's row (with the number of its turns). -/
inductive Blk : Type where
  | dead
  | cells (cs : List AV)
  | row (v : Nat) (k : Kd) (l : List (T k))

structure St where
  t : List AV
  m : List Blk

/-- The value at a place. -/
def nth : List AV → Nat → AV
  | [], _ => .undef
  | x :: _, 0 => x
  | _ :: r, n + 1 => nth r n

def setN : List AV → Nat → AV → List AV
  | [], _, _ => []
  | _ :: r, 0, v => v :: r
  | x :: r, n + 1, v => x :: setN r n v

/-- The block of a number. -/
def bnth : List Blk → Nat → Blk
  | [], _ => .dead
  | x :: _, 0 => x
  | _ :: r, n + 1 => bnth r n

def setB : List Blk → Nat → Blk → List Blk
  | [], _, _ => []
  | _ :: r, 0, v => v :: r
  | x :: r, n + 1, v => x :: setB r n v

/-- An operand. -/
inductive O where
  | t (i : Nat)
  | c (v : AV)

def O.get (s : St) : O → AV
  | .t i => nth s.t i
  | .c v => v

/-- A whole number of int64 (int), as an operand. -/
def O.i (n : Int) : O := .c (.int .i64 n)
def O.b (b : Bool) : O := .c (.bool b)

/-- How a value is handed over: as it is; a list that is only read; a list that is given away; a list that is written; parts; a place that is only read; a place that is written. -/
inductive Mode where
  | v
  | fn
  | imm (k : Kd)
  | own (k : Kd)
  | mrow (k : Kd)
  | agg (ms : List Mode)
  | tup (ms : List Mode)
  | box (ms : List Mode)

/-- What a cell that is compared is of. -/
inductive Pr where
  | i | b | s
  deriving DecidableEq

inductive AI where
  | mv (x : O)
  | pick (c a b : O)
  | box (x : O)
  | build (z : List AV) (ps : List (Nat × Nat × O))
  | slit (k : Kd) (xs : List O)
  | ld (agg : Bool) (n : Nat) (x : O)
  | ldb (agg : Bool) (n : Nat) (x : O)
  | st (n : Nat) (x v : O)
  | bin (op : BinOp) (x y : O)
  | eqa (neg : Bool) (ts : List Pr) (x y : O)
  | eqb (neg : Bool) (x y : O)
  | eqe (neg : Bool) (x : O)
  | un (op : UnOp) (x : O)
  | conv (k : IntKind) (x : O)
  | b2s (x : O)
  | s2b (x : O)
  | mk (k : Kd) (z : T k) (len cap : O)
  | slc (k : Kd) (x : O) (lo hi : Option O)
  | sl0 (x : O)
  | sls (x : O) (lo hi : Option O)
  | fa (off : Nat) (x : O)
  | fd (agg : Bool) (off n : Nat) (x : O)
  | ia (k : Kd) (x i : O)
  | iaa (n len : Nat) (x i : O)
  | ix (agg : Bool) (n len : Nat) (x i : O)
  | ixs (x i : O)
  | len (x : O)
  | lens (x : O)
  | strv (x : O)
  | app (k : Kd) (x y : O)
  | apps (x y : O)
  | cpy (x y : O)
  | mx (x : O) (xs : List O)
  | mn (x : O) (xs : List O)
  | call (f : FuncId) (xs : List O)
  | callp (f : FuncId) (xs : List O)
  | callr (f : FuncId) (xs : List O)
  | callv (x : O) (xs : List O)
  | isnil (neg : Bool) (x : O)
  | mf (f : FuncId) (caps : List O)
  | nc (x : O)
  | ex (i : Nat) (x : O)
  | ld0 (agg : Bool) (n : Nat) (x : O)
  | ia0 (k : Kd) (x i : O)
  | len0 (x : O)
  | slc0 (k : Kd) (x : O) (lo hi : Option O)

structure Ins where
  d : Option Nat
  o : AI
  g : Option (Nat × Bool)

/-- What a function is called with, and what it gives back. -/
structure Con where
  ms : List Mode
  rm : Mode
  run : List AV → Option (AV × List AV)

abbrev Tab := FuncId → Option Con

/-! ### Reading -/

def kq : IntKind → IntKind → Bool
  | .i8, .i8 => true
  | .i16, .i16 => true
  | .i32, .i32 => true
  | .i64, .i64 => true
  | .u8, .u8 => true
  | .u16, .u16 => true
  | .u32, .u32 => true
  | .u64, .u64 => true
  | _, _ => false

def eqN : Nat → Nat → Bool
  | 0, 0 => true
  | n + 1, m + 1 => eqN n m
  | _, _ => false

theorem eqN_self (n : Nat) : eqN n n = true := by
  induction n with
  | zero => rfl
  | succ n ih => exact ih

theorem eqN_iff {n m : Nat} : eqN n m = true ↔ n = m := by
  constructor
  · intro h
    induction n generalizing m with
    | zero => cases m with
      | zero => rfl
      | succ m => simp [eqN] at h
    | succ n ih => cases m with
      | zero => simp [eqN] at h
      | succ m => exact congrArg (· + 1) (ih h)
  · rintro rfl
    exact eqN_self n

/-- What a slice value reads as, a list of a kind. -/
def asList (k : Kd) (m : List Blk) : AV → Option (List (T k))
  | .nil => some []
  | .sl k' l => castK k k' l
  | .ms id v lo len => match bnth m id with
    | .row v' k' l => match eqN v v' with
      | true => if lo + len ≤ l.length then castK k k' ((l.drop lo).take len) else none
      | false => none
    | _ => none
  | _ => none

def mapO {α β : Type} (f : α → Option β) : List α → Option (List β)
  | [] => some []
  | x :: r => match f x with
    | some y => match mapO f r with
      | some s => some (y :: s)
      | none => none
    | none => none

def zipO {α β γ : Type} (f : α → β → Option γ) : List α → List β → Option (List γ)
  | [], [] => some []
  | x :: r, y :: s => match f x y with
    | some z => match zipO f r s with
      | some q => some (z :: q)
      | none => none
    | none => none
  | _, _ => none

/-- Values as ones that are only read. (The number: how many steps at most.) -/
def im (m : List Blk) : Nat → List AV → Option (List AV)
  | 0, _ => none
  | _ + 1, [] => some []
  | d + 1, v :: r => match im m d r with
    | none => none
    | some r => match v with
      | .ms id v lo len => match bnth m id with
        | .row v' k l => match eqN v v' with
          | true => if lo + len ≤ l.length then some (.sl k ((l.drop lo).take len) :: r) else none
          | false => none
        | _ => none
      | .ptr id off => match bnth m id with
        | .cells cs => match im m d cs with
          | some cs => some (.ip cs off :: r)
          | none => none
        | _ => none
      | .rp id v i off => match bnth m id with
        | .row v' k l => match eqN v v' with
          | true => match l[i]? with
            | some x => some (.ip (enc k x) off :: r)
            | none => none
          | false => none
        | _ => none
      | .ip cs off => match im m d cs with
        | some cs => some (.ip cs off :: r)
        | none => none
      | .fn f caps => match im m d caps with
        | some cs => some (.fn f cs :: r)
        | none => none
      | .agg cs => match im m d cs with
        | some cs => some (.agg cs :: r)
        | none => none
      | .undef => none
      | .own _ _ => none
      | .mrow _ _ => none
      | .box _ => none
      | .tup _ => none
      | v => some (v :: r)

/-- A value without memory. -/
def plain : AV → Option AV
  | .bool b => some (.bool b)
  | .int k n => some (.int k n)
  | .str s => some (.str s)
  | .err e => some (.err e)
  | _ => none

/-- The blocks that go with values that are handed over. -/
def taken (m : List Blk) : Nat → List Mode → List AV → Option (List Nat)
  | 0, _, _ => none
  | _ + 1, [], [] => some []
  | d + 1, md :: ms, v :: vs => match taken m d ms vs with
    | none => none
    | some ids => match md with
      | .own _ => match v with
        | .ms id _ _ _ => some (id :: ids)
        | _ => some ids
      | .mrow _ => match v with
        | .ms id _ _ _ => some (id :: ids)
        | _ => some ids
      | .agg ms => match v with
        | .agg cs => match taken m d ms cs with
          | some i => some (i ++ ids)
          | none => none
        | _ => none
      | .tup ms => match v with
        | .tup cs => match taken m d ms cs with
          | some i => some (i ++ ids)
          | none => none
        | _ => none
      | .box ms => match v with
        | .ptr id _ => match bnth m id with
          | .cells cs => match taken m d ms cs with
            | some i => some (id :: (i ++ ids))
            | none => none
          | _ => none
        | _ => none
      | _ => some ids
  | _, _, _ => none

/-- A list that is whole, as one that is given away. -/
def whole (k : Kd) (m : List Blk) : AV → Option (List (T k))
  | .nil => some []
  | .ms id v lo len => match bnth m id with
    | .row v' k' l => match eqN v v' with
      | true => if lo = 0 ∧ len = l.length then castK k k' l else none
      | false => none
    | _ => none
  | _ => none

/-- Values as they are handed over (m: the memory, m': without what goes with them; res: are they results?). -/
def conv (res : Bool) (m m' : List Blk) : Nat → List Mode → List AV → Option (List AV)
  | 0, _, _ => none
  | _ + 1, [], [] => some []
  | d + 1, md :: ms, v :: vs => match conv res m m' d ms vs with
    | none => none
    | some r => match md with
      | .v => match res with
        | true => match v with
          | .agg cs => match mapO plain cs with
            | some cs => some (.agg cs :: r)
            | none => none
          | v => match plain v with
            | some v => some (v :: r)
            | none => none
        | false => match im m' d [v] with
          | some [v] => some (v :: r)
          | _ => none
      | .fn => match v with
        | .fn f cs => match im m' d cs with
          | some cs => some (.fn f cs :: r)
          | _ => none
        | _ => none
      | .imm k => match asList k m' v with
        | some l => some (.sl k l :: r)
        | none => none
      | .own k => match whole k m v with
        | some l => some (.own k l :: r)
        | none => none
      | .mrow k => match whole k m v with
        | some l => some (.mrow k l :: r)
        | none => none
      | .agg ms => match v with
        | .agg cs => match conv res m m' d ms cs with
          | some cs => some (.agg cs :: r)
          | none => none
        | _ => none
      | .tup ms => match v with
        | .tup cs => match conv res m m' d ms cs with
          | some cs => some (.tup cs :: r)
          | none => none
        | _ => none
      | .box ms => match v with
        | .ptr id off => match off with
          | 0 => match bnth m id with
            | .cells cs => match conv res m m' d ms cs with
              | some cs => some (.box cs :: r)
              | none => none
            | _ => none
          | _ + 1 => none
        | _ => none
  | _, _, _ => none

def killAll (m : List Blk) : List Nat → List Blk
  | [] => m
  | i :: r => killAll (setB m i .dead) r

def memN (x : Nat) : List Nat → Bool
  | [] => false
  | y :: r => match eqN x y with
    | true => true
    | false => memN x r

def noTwice : List Nat → Bool
  | [] => true
  | i :: r => match memN i r with
    | true => false
    | false => noTwice r

/-- The arguments as they are handed over, and the memory that is left. -/
def hand (res : Bool) (m : List Blk) (ms : List Mode) (vs : List AV) : Option (List AV × List Blk) :=
  match taken m 64 ms vs with
  | none => none
  | some ids => match noTwice ids with
    | false => none
    | true => match conv res m (killAll m ids) 64 ms vs with
      | none => none
      | some as => some (as, killAll m ids)

/-- What has been handed over is laid into memory. -/
def land : Nat → List AV → List Blk → Option (List AV × List Blk)
  | 0, _, _ => none
  | _ + 1, [], m => some ([], m)
  | d + 1, v :: r, m => match v with
    | .own k l => match land d r (m ++ [.row 0 k l]) with
      | some (r, m2) => some (.ms m.length 0 0 l.length :: r, m2)
      | none => none
    | .mrow k l => match land d r (m ++ [.row 0 k l]) with
      | some (r, m2) => some (.ms m.length 0 0 l.length :: r, m2)
      | none => none
    | .box cs => match land d cs m with
      | some (cs, m1) => match land d r (m1 ++ [.cells cs]) with
        | some (r, m2) => some (.ptr m1.length 0 :: r, m2)
        | none => none
      | none => none
    | .agg cs => match land d cs m with
      | some (cs, m1) => match land d r m1 with
        | some (r, m2) => some (.agg cs :: r, m2)
        | none => none
      | none => none
    | .tup cs => match land d cs m with
      | some (cs, m1) => match land d r m1 with
        | some (r, m2) => some (.tup cs :: r, m2)
        | none => none
      | none => none
    | v => match land d r m with
      | some (r, m2) => some (v :: r, m2)
      | none => none

/-- Is a list among the parts written? -/
def anyM : List Mode → Bool
  | [] => false
  | md :: r => match md with
    | .mrow _ => true
    | _ => anyM r

/-- What was written into a list is laid back. -/
def backR (k : Kd) (v o : AV) (m : List Blk) : Option (List Blk) :=
  match v with
  | .nil => match o with
    | .mrow _ _ => some m
    | _ => none
  | .ms id ver _ _ => match o with
    | .mrow k' l' => match castK k k' l' with
      | some l => some (setB m id (.row ver k l))
      | none => none
    | _ => none
  | _ => none

/-- What was written into the lists of a struct is laid back. -/
def backC : List Mode → List AV → List AV → List Blk → Option (List Blk)
  | [], [], [], m => some m
  | md :: ms, v :: vs, o :: os, m => match md with
    | .mrow k => match backR k v o m with
      | some m1 => backC ms vs os m1
      | none => none
    | _ => backC ms vs os m
  | _, _, _, _ => none

/-- What was written is laid back: the modes, the values that stood for them, what they hold now. -/
def back : List Mode → List AV → List AV → List Blk → Option (List Blk)
  | [], [], [], m => some m
  | md :: ms, v :: vs, os, m => match md with
    | .box _ => match v with
      | .ptr id _ => match os with
        | .box cs :: os => match land 64 cs m with
          | some (cs', m1) => back ms vs os (setB m1 id (.cells cs'))
          | none => none
        | _ => none
      | _ => none
    | .mrow k => match os with
      | o :: os => match backR k v o m with
        | some m1 => back ms vs os m1
        | none => none
      | _ => none
    | .agg ms2 => match anyM ms2 with
      | true => match v with
        | .agg cs => match os with
          | .agg os2 :: os => match backC ms2 cs os2 m with
            | some m1 => back ms vs os m1
            | none => none
          | _ => none
        | _ => none
      | false => back ms vs os m
    | _ => back ms vs os m
  | _, _, _, _ => none

/-- The blocks that values name, and what these name. -/
def idsOf (m : List Blk) : Nat → List AV → Option (List Nat)
  | 0, _ => none
  | _ + 1, [] => some []
  | d + 1, v :: r => match idsOf m d r with
    | none => none
    | some is => match v with
      | .ms id _ _ _ => some (id :: is)
      | .rp id _ _ _ => some (id :: is)
      | .ptr id _ => match bnth m id with
        | .cells cs => match idsOf m d cs with
          | some js => some (id :: (js ++ is))
          | none => none
        | _ => some (id :: is)
      | .agg cs => match idsOf m d cs with
        | some js => some (js ++ is)
        | none => none
      | .fn _ cs => match idsOf m d cs with
        | some js => some (js ++ is)
        | none => none
      | .ip cs _ => match idsOf m d cs with
        | some js => some (js ++ is)
        | none => none
      | .tup cs => match idsOf m d cs with
        | some js => some (js ++ is)
        | none => none
      | _ => some is

def kdImm : Kd → Bool
  | .mail | .node | .ints | .bools | .recs => true
  | _ => false

def leak : Nat → List Mode → Bool
  | 0, _ => true
  | _ + 1, [] => false
  | d + 1, md :: r => match md with
    | .v => leak d r
    | .fn => true
    | .imm _ => true
    | .own k => match kdImm k with
      | true => true
      | false => leak d r
    | .mrow k => match kdImm k with
      | true => true
      | false => leak d r
    | .agg ms => match leak d ms with
      | true => true
      | false => leak d r
    | .tup ms => match leak d ms with
      | true => true
      | false => leak d r
    | .box ms => match leak d ms with
      | true => true
      | false => leak d r

def wrote : Mode → Bool
  | .box _ => true
  | .mrow _ => true
  | .agg ms => anyM ms
  | _ => false

/-- The modes of what is written. -/
def wrotes : List Mode → List Mode
  | [] => []
  | md :: r => match wrote md with
    | true => md :: wrotes r
    | false => wrotes r

/-- Can what is given back name what was only read? -/
def Con.leaks (c : Con) : Bool := leak 64 (c.rm :: wrotes c.ms)

def Mode.pure : Nat → List Mode → Bool
  | 0, _ => false
  | _ + 1, [] => true
  | d + 1, md :: r => match md with
    | .v => Mode.pure d r
    | .fn => Mode.pure d r
    | .imm _ => Mode.pure d r
    | .agg ms => match Mode.pure d ms with
      | true => Mode.pure d r
      | false => false
    | .tup ms => match Mode.pure d ms with
      | true => Mode.pure d r
      | false => false
    | _ => false

/-- Does a call make no memory that stays, and write none? -/
def Con.pure (c : Con) : Bool := match Mode.pure 64 (c.rm :: c.ms) with
  | true => !c.leaks
  | false => false

/-- What of the memory is left: what was lent to one that may give it back is given up. -/
def lent (c : Con) (m m1 : List Blk) (vs : List AV) : Option (List Blk) :=
  match c.leaks with
  | true => match idsOf m 64 vs with
    | some is => some (killAll m1 is)
    | none => none
  | false => some m1

/-- A call by its contract. -/
def callA (c : Con) (vs : List AV) (m : List Blk) : Option (AV × List Blk) :=
  match hand false m c.ms vs with
  | none => none
  | some (as, m1) => match c.run as with
    | none => none
    | some (r, outs) => match lent c m m1 vs with
      | none => none
      | some m1 => match back c.ms vs outs m1 with
        | none => none
        | some m2 => match land 64 [r] m2 with
          | some ([r], m3) => some (r, m3)
          | _ => none

def primL : Nat → List AV → Bool
  | _, [] => true
  | 0, _ :: _ => false
  | d + 1, v :: r => match v with
    | .bool _ => primL d r
    | .int _ _ => primL d r
    | .str _ => primL d r
    | .err _ => primL d r
    | _ => false

/-- A result without memory. -/
def primR : AV → Bool
  | .agg cs => primL 60 cs
  | .tup cs => primL 60 cs
  | v => primL 60 [v]

/-- A call that turns no memory, and makes none. -/
def callP (c : Con) (vs : List AV) (m : List Blk) : Option AV :=
  match c.pure with
  | false => none
  | true => match hand false m c.ms vs with
    | none => none
    | some (as, _) => match c.run as with
      | none => none
      | some (r, outs) => match outs with
        | [] => match primR r with
          | true => some r
          | false => none
        | _ :: _ => none

/-! ### Instructions -/

def cellsOf : AV → List AV
  | .agg cs => cs
  | v => [v]

def mkV (agg : Bool) (n : Nat) (cs : List AV) : Option AV :=
  match agg with
  | true => match eqN cs.length n with
    | true => some (.agg cs)
    | false => none
  | false => match cs with
    | [v] => some v
    | _ => none

def intA (op : BinOp) (k : IntKind) (a b : Int) : Option AV :=
  match op with
  | .add => some (.int k (k.wrap (a + b)))
  | .sub => some (.int k (k.wrap (a - b)))
  | .mul => some (.int k (k.wrap (a * b)))
  | .quo => if b = 0 then none else some (.int k (k.wrap (a.tdiv b)))
  | .rem => if b = 0 then none else some (.int k (a.tmod b))
  | .and => some (.int k (k.wrap ((BitVec.ofInt k.bits a &&& BitVec.ofInt k.bits b).toNat : Int)))
  | .or => some (.int k (k.wrap ((BitVec.ofInt k.bits a ||| BitVec.ofInt k.bits b).toNat : Int)))
  | .xor => some (.int k (k.wrap ((BitVec.ofInt k.bits a ^^^ BitVec.ofInt k.bits b).toNat : Int)))
  | .eql => some (.bool (a == b))
  | .neq => some (.bool (a != b))
  | .lss => some (.bool (decide (a < b)))
  | .leq => some (.bool (decide (a ≤ b)))
  | .gtr => some (.bool (decide (a > b)))
  | .geq => some (.bool (decide (a ≥ b)))
  | _ => none

def binA (op : BinOp) (x y : AV) : Option AV :=
  match x, y with
  | .int k a, .int k' b => match op with
    | .shl => if b < 0 then none else some (.int k (k.wrap (a * 2 ^ min b.toNat k.bits)))
    | .shr => if b < 0 then none else some (.int k (a.fdiv (2 ^ min b.toNat k.bits)))
    | op => match kq k k' with
      | true => intA op k a b
      | false => none
  | .str a, .str b => match op with
    | .add => if a.size + b.size ≤ 4611686018427387904 then some (.str (a ++ b)) else none
    | .eql => some (.bool (a.toList == b.toList))
    | .neq => some (.bool (!(a.toList == b.toList)))
    | .lss => some (.bool (Op.bytesLess a.toList b.toList))
    | _ => none
  | _, _ => none

def eqC : Pr → AV → AV → Option Bool
  | .i, .int k a, .int k' b => match kq k k' with
    | true => some (a == b)
    | false => none
  | .s, .str a, .str b => some (a.toList == b.toList)
  | .b, .bool a, .bool b => some (a == b)
  | _, _, _ => none

def eqL : List Pr → List AV → List AV → Option Bool
  | [], [], [] => some true
  | t :: ts, x :: r, y :: s => match eqC t x y with
    | some b => match eqL ts r s with
      | some c => some (b && c)
      | none => none
    | none => none
  | _, _, _ => none

/-- The kinds of the slices among an element's cells. -/
def leaf : Kd → List (Option Kd)
  | .int | .u8 | .bool | .str => [none]
  | .fact | .doubt => [none, none, none]
  | .rumor | .item | .due => [none, none, none, none]
  | .rcd => [none, none, none, none, none, none]
  | .mail => [none, none, none, none, none, none, some .fact]
  | .node => [none, none, none, none, none, some .fact, some .rumor, some .int, none, none, none, none, none, some .doubt]
  | .ints => [some .int]
  | .bools => [some .bool]
  | .recs => [some .rcd]

/-- A row that is named by a value is given up. -/
def killMs (v : AV) (m : List Blk) : List Blk :=
  match v with
  | .ms id _ _ _ => setB m id .dead
  | _ => m

/-- The cells of an element that is laid into a row: its slices are only read from then on. -/
def frz : List (Option Kd) → List AV → List Blk → Option (List AV × List Blk)
  | [], [], m => some ([], m)
  | o :: r, v :: s, m => match o with
    | none => match frz r s m with
      | some (s', m') => some (v :: s', m')
      | none => none
    | some k => match asList k m v with
      | some l => match frz r s (killMs v m) with
        | some (s', m') => some (.sl k l :: s', m')
        | none => none
      | none => none
  | _, _, _ => none

/-- An element out of a value that is laid into a row. -/
def elemA (k : Kd) (v : AV) (m : List Blk) : Option (T k × List Blk) :=
  match frz (leaf k) (cellsOf v) m with
  | some (cs, m') => match dec k cs with
    | some x => some (x, m')
    | none => none
  | none => none

def elemsA (k : Kd) : List AV → List Blk → Option (List (T k) × List Blk)
  | [], m => some ([], m)
  | v :: r, m => match elemA k v m with
    | some (x, m1) => match elemsA k r m1 with
      | some (l, m2) => some (x :: l, m2)
      | none => none
    | none => none

/-- So many cells at a place that are put in the place of others. -/
def splice : List AV → Nat → List AV → List AV
  | cs, 0, [] => cs
  | _ :: r, 0, y :: s => y :: splice r 0 s
  | x :: r, o + 1, new => x :: splice r o new
  | [], _, _ => []

/-- So many cells from a place on. -/
def cut : Nat → Nat → List AV → List AV
  | 0, 0, _ => []
  | 0, n + 1, x :: r => x :: cut 0 n r
  | o + 1, n, _ :: r => cut o n r
  | _, _, [] => []

def ldA (m : List Blk) (agg : Bool) (n : Nat) : AV → Option AV
  | .ip cs off => mkV agg n (cut off n cs)
  | .ptr id off => match bnth m id with
    | .cells cs => mkV agg n (cut off n cs)
    | _ => none
  | .rp id v i off => match bnth m id with
    | .row v' k l => match eqN v v' with
      | true => match l[i]? with
        | some x => mkV agg n (cut off n (enc k x))
        | none => none
      | false => none
    | _ => none
  | _ => none

/-- Are these values of one cell each? -/
def isCells : List AV → Bool
  | [] => true
  | v :: r => match v with
    | .undef => false
    | .agg _ => false
    | .tup _ => false
    | .own _ _ => false
    | .mrow _ _ => false
    | .box _ => false
    | _ => isCells r

def stA (m : List Blk) (n : Nat) (p v0 : AV) : Option (List Blk) :=
  match eqN (cellsOf v0).length n with
  | false => none
  | true => match p with
    | .ptr id off => match bnth m id with
      | .cells cs => match isCells (cellsOf v0) with
        | true => if off + n ≤ cs.length then some (setB m id (.cells (splice cs off (cellsOf v0)))) else none
        | false => none
      | _ => none
    | .rp id v i off => match bnth m id with
      | .row ver k l => match eqN v ver with
        | true => match l[i]? with
          | some x => if off + n ≤ wid k then
              match frz (leaf k) (splice (enc k x) off (cellsOf v0)) m with
              | some (cs, m') => match dec k cs, bnth m' id with
                | some y, .row _ _ _ => some (setB m' id (.row ver k (l.set i y)))
                | _, _ => none
              | none => none
            else none
          | none => none
        | false => none
      | _ => none
    | _ => none

def iaA (k : Kd) (m : List Blk) (x i : AV) : Option AV :=
  match i with
  | .int _ i => match x with
    | .sl k' l => match castK k k' l with
      | some l => if 0 ≤ i then match l[i.toNat]? with
          | some e => some (.ip (enc k e) 0)
          | none => none
        else none
      | none => none
    | .ms id v lo len => match bnth m id with
      | .row v' k' l => match eqN v v' with
        | true => match castK k k' l with
          | some _ => if 0 ≤ i ∧ i < len then some (.rp id v (lo + i.toNat) 0) else none
          | none => none
        | false => none
      | _ => none
    | _ => none
  | _ => none

def lenA (m : List Blk) : AV → Option AV
  | .nil => some (.int .i64 0)
  | .sl _ l => some (.int .i64 l.length)
  | .ms id v _ len => match bnth m id with
    | .row v' _ _ => match eqN v v' with
      | true => some (.int .i64 len)
      | false => none
    | _ => none
  | _ => none

/-- A bound of a cut: what is not said. -/
def bnd (d : Int) : Option AV → Option Int
  | none => some d
  | some (.int _ n) => some n
  | _ => none

def slcA (k : Kd) (m : List Blk) (x : AV) (lo hi : Option AV) : Option AV :=
  match x with
  | .sl k' l => match castK k k' l with
    | some l => match bnd 0 lo, bnd l.length hi with
      | some a, some b => if 0 ≤ a ∧ a ≤ b ∧ b ≤ l.length then some (.sl k ((l.drop a.toNat).take (b.toNat - a.toNat))) else none
      | _, _ => none
    | none => none
  | .ms id v o len => match bnth m id with
    | .row v' k' l => match eqN v v' with
      | true => match castK k k' l with
        | some _ => match bnd 0 lo, bnd len hi with
          | some a, some b => if 0 ≤ a ∧ a ≤ b ∧ b ≤ len then some (.ms id v (o + a.toNat) (b.toNat - a.toNat)) else none
          | _, _ => none
        | none => none
      | false => none
    | _ => none
  | _ => none

def slsA (x : AV) (lo hi : Option AV) : Option AV :=
  match x with
  | .str s => match bnd 0 lo, bnd s.size hi with
    | some a, some b => if 0 ≤ a ∧ a ≤ b ∧ b ≤ s.size then some (.str (s.extract a.toNat b.toNat)) else none
    | _, _ => none
  | _ => none

/-- The greatest length to which a row may grow. -/
def most : Nat := 1099511627776

def appA (k : Kd) (x : AV) (ys : List (T k)) (m : List Blk) : Option (AV × List Blk) :=
  match x with
  | .nil => if ys.length ≤ most then some (.ms m.length 0 0 ys.length, m ++ [.row 0 k ys]) else none
  | .ms id v lo len => match bnth m id with
    | .row v' k' l => match eqN v v' with
      | true => if lo = 0 ∧ len ≤ l.length ∧ len + ys.length ≤ most then
          match castK k k' l with
          | some l => some (.ms id (v + 1) 0 (l.take len ++ ys).length, setB m id (.row (v + 1) k (l.take len ++ ys)))
          | none => none
        else none
      | false => none
    | _ => none
  | _ => none

def maxA : AV → List AV → Option AV
  | x, [] => some x
  | .int k a, .int k' b :: r => match kq k k' with
    | true => maxA (.int k (if b > a then b else a)) r
    | false => none
  | _, _ => none

def minA : AV → List AV → Option AV
  | x, [] => some x
  | .int k a, .int k' b :: r => match kq k k' with
    | true => minA (.int k (if b < a then b else a)) r
    | false => none
  | _, _ => none

def fillA : List AV → List (Nat × Nat × AV) → Option (List AV)
  | cs, [] => some cs
  | cs, (off, n, v) :: r => match eqN (cellsOf v).length n with
    | true => if off + n ≤ cs.length then fillA (splice cs off (cellsOf v)) r else none
    | false => none

def bytesOf (s : ByteArray) : List UInt8 := s.data.toList

def noBox : List Mode → Bool
  | [] => true
  | .box _ :: _ => false
  | _ :: r => noBox r

/-- No place that is written goes along. -/
def Con.rows (c : Con) : Bool := noBox c.ms

def ldbA (m : List Blk) (agg : Bool) (n : Nat) : AV → Option AV
  | .ip cs off => mkV agg n (cut off n cs)
  | .ptr id off => match bnth m id with
    | .cells cs => mkV agg n (cut off n cs)
    | _ => none
  | _ => none

def stepI (C : Tab) (i : AI) (s : St) : Option (AV × List Blk) :=
  let v (x : Option AV) : Option (AV × List Blk) := match x with
    | some y => some (y, s.m)
    | none => none
  match i with
  | .mv x => some (x.get s, s.m)
  | .pick c a b => match c.get s with
    | .bool true => some (a.get s, s.m)
    | .bool false => some (b.get s, s.m)
    | _ => none
  | .box x => some (.ptr s.m.length 0, s.m ++ [.cells (cellsOf (x.get s))])
  | .build z ps => match fillA z (ps.map fun p => (p.1, p.2.1, p.2.2.get s)) with
    | some cs => some (.agg cs, s.m)
    | none => none
  | .slit k xs => match elemsA k (xs.map (O.get s)) s.m with
    | some (l, m) => some (.ms m.length 0 0 l.length, m ++ [.row 0 k l])
    | none => none
  | .ld agg n x => v (ldA s.m agg n (x.get s))
  | .ldb agg n x => v (ldbA s.m agg n (x.get s))
  | .isnil _ _ => none
  | .st n p x => match stA s.m n (p.get s) (x.get s) with
    | some m => some (.undef, m)
    | none => none
  | .bin op x y => v (binA op (x.get s) (y.get s))
  | .eqa neg ts x y => match x.get s, y.get s with
    | .agg a, .agg b => match eqL ts a b with
      | some r => some (.bool (match neg with | true => !r | false => r), s.m)
      | none => none
    | _, _ => none
  | .eqb neg x y => match x.get s, y.get s with
    | .bool a, .bool b => some (.bool (match neg with | true => !(a == b) | false => a == b), s.m)
    | _, _ => none
  | .eqe neg x => match x.get s with
    | .err a => some (.bool (match neg with | true => a | false => !a), s.m)
    | _ => none
  | .un op x => match op, x.get s with
    | .not, .bool b => some (.bool (!b), s.m)
    | .neg, .int k n => some (.int k (k.wrap (0 - n)), s.m)
    | .xor, .int k n => some (.int k (k.wrap ((BitVec.ofInt k.bits (if k.signed then -1 else k.max) ^^^ BitVec.ofInt k.bits n).toNat : Int)), s.m)
    | _, _ => none
  | .conv k x => match x.get s with
    | .int _ n => some (.int k (k.wrap n), s.m)
    | _ => none
  | .b2s x => match asList .u8 s.m (x.get s) with
    | some l => some (.str ⟨l.toArray⟩, s.m)
    | none => none
  | .s2b x => match x.get s with
    | .str b => some (.ms s.m.length 0 0 b.size, s.m ++ [.row 0 .u8 (bytesOf b)])
    | _ => none
  | .mk k z len cap => match len.get s, cap.get s with
    | .int _ a, .int _ b => if 0 ≤ a ∧ a ≤ b ∧ b ≤ most then some (.ms s.m.length 0 0 a.toNat, s.m ++ [.row 0 k (List.replicate a.toNat z)]) else none
    | _, _ => none
  | .slc k x lo hi => v (slcA k s.m (x.get s) (lo.map (O.get s)) (hi.map (O.get s)))
  | .sl0 x => match x.get s with
    | .nil => some (.nil, s.m)
    | .sl _ _ => some (.nil, s.m)
    | .ms _ _ _ _ => some (.nil, s.m)
    | _ => none
  | .sls x lo hi => v (slsA (x.get s) (lo.map (O.get s)) (hi.map (O.get s)))
  | .fa off x => match x.get s with
    | .ip cs o => some (.ip cs (o + off), s.m)
    | .ptr id o => some (.ptr id (o + off), s.m)
    | .rp id v i o => some (.rp id v i (o + off), s.m)
    | _ => none
  | .fd agg off n x => match x.get s with
    | .agg cs => v (mkV agg n (cut off n cs))
    | _ => none
  | .ia k x i => v (iaA k s.m (x.get s) (i.get s))
  | .iaa n len x i => match x.get s, i.get s with
    | .ptr id o, .int _ j => if 0 ≤ j ∧ j < len then some (.ptr id (o + j.toNat * n), s.m) else none
    | .ip cs o, .int _ j => if 0 ≤ j ∧ j < len then some (.ip cs (o + j.toNat * n), s.m) else none
    | _, _ => none
  | .ix agg n len x i => match x.get s, i.get s with
    | .agg cs, .int _ j => if 0 ≤ j ∧ j < len then v (mkV agg n (cut (j.toNat * n) n cs)) else none
    | _, _ => none
  | .ixs x i => match x.get s, i.get s with
    | .str b, .int _ j => if 0 ≤ j then match (bytesOf b)[j.toNat]? with
        | some c => some (.int .u8 c.toNat, s.m)
        | none => none
      else none
    | _, _ => none
  | .len x => v (lenA s.m (x.get s))
  | .lens x => match x.get s with
    | .str b => some (.int .i64 b.size, s.m)
    | _ => none
  | .strv x => match x.get s with
    | .str b => some (.str b, s.m)
    | _ => none
  | .app k x y => match asList k s.m (y.get s) with
    | some ys => appA k (x.get s) ys s.m
    | none => none
  | .apps x y => match y.get s with
    | .str b => appA .u8 (x.get s) (bytesOf b) s.m
    | _ => none
  | .cpy x y => match x.get s with
    | .ms id v lo len => match bnth s.m id with
      | .row v' k l => match eqN v v' with
        | true => match asList k s.m (y.get s) with
          | some ys => if lo + len ≤ l.length then
              some (.int .i64 (min ys.length len : Nat), setB s.m id (.row v k (l.take lo ++ ys.take (min ys.length len) ++ l.drop (lo + min ys.length len))))
            else none
          | none => none
        | false => none
      | _ => none
    | _ => none
  | .mx x xs => v (maxA (x.get s) (xs.map (O.get s)))
  | .mn x xs => v (minA (x.get s) (xs.map (O.get s)))
  | .call f xs => match C f with
    | some c => callA c (xs.map (O.get s)) s.m
    | none => none
  | .callp f xs => match C f with
    | some c => v (callP c (xs.map (O.get s)) s.m)
    | none => none
  | .callr _ _ => none
  | .callv x xs => match x.get s with
    | .fn f caps => match C f with
      | some c => callA c (xs.map (O.get s) ++ caps) s.m
      | none => none
    | _ => none
  | .mf f caps => some (.fn f (caps.map (O.get s)), s.m)
  | .nc x => match x.get s with
    | .ip cs o => some (.ip cs o, s.m)
    | .ptr id o => some (.ptr id o, s.m)
    | .rp id v i o => some (.rp id v i o, s.m)
    | _ => none
  | .ex i x => match x.get s with
    | .tup vs => match vs[i]? with
      | some y => some (y, s.m)
      | none => none
    | _ => none
  | .ld0 agg n x => v (ldA [] agg n (x.get s))
  | .ia0 k x i => v (iaA k [] (x.get s) (i.get s))
  | .len0 x => v (lenA [] (x.get s))
  | .slc0 k x lo hi => v (slcA k [] (x.get s) (lo.map (O.get s)) (hi.map (O.get s)))

/-! ### Codes -/

def St.put (s : St) (d : Option Nat) (v : AV) (m : List Blk) : St :=
  match d with
  | some d => ⟨setN s.t d v, m⟩
  | none => ⟨s.t, m⟩

/-- Is it nil? (Of an empty list either may be.) -/
def nilQ (neg : Bool) (m : List Blk) (v : AV) (K : AV → Prop) : Prop :=
  match v with
  | .nil => ∀ b, K (.bool b)
  | .sl _ l => (l = [] → K (.bool (!neg))) ∧ K (.bool neg)
  | .ms id v _ len => match bnth m id with
    | .row v' _ _ => match eqN v v' with
      | true => (len = 0 → K (.bool (!neg))) ∧ K (.bool neg)
      | false => False
    | _ => False
  | _ => False

def evI (C : Tab) (i : AI) (s : St) (K : AV → List Blk → Prop) : Prop :=
  match i with
  | .isnil neg x => nilQ neg s.m (x.get s) fun v => K v s.m
  | .pick c a b => match c.get s with
    | .bool t => match t with
      | true => K (a.get s) s.m
      | false => K (b.get s) s.m
    | _ => False
  | i => match stepI C i s with
    | some (v, m) => K v m
    | none => False

/-- What must hold ahead of instructions. -/
def evR (C : Tab) (Q : St → Prop) : List Ins → St → Prop
  | [], s => Q s
  | i :: r, s => match i.g with
    | none => evI C i.o s fun v m => evR C Q r (s.put i.d v m)
    | some (j, w) => match nth s.t j with
      | .bool b => match w with
        | true => match b with
          | true => evI C i.o s fun v m => evR C Q r (s.put i.d v m)
          | false => evR C Q r (s.put i.d .undef s.m)
        | false => match b with
          | true => evR C Q r (s.put i.d .undef s.m)
          | false => evI C i.o s fun v m => evR C Q r (s.put i.d v m)
      | .undef => evR C Q r (s.put i.d .undef s.m)
      | _ => False

/-- Each of some lists of instructions. -/
def allR (C : Tab) (Q : St → Prop) : List (List Ins) → St → Prop
  | [], _ => True
  | is :: r, s => evR C Q is s ∧ allR C Q r s

/-! ### Tidying: what is not looked at any more is given up, and what is left is numbered anew. -/

mutual
def dropV : AV → AV
  | .undef => .undef
  | .junk => .junk
  | .bool b => .bool b
  | .int k n => .int k n
  | .str s => .str s
  | .nil => .nil
  | .err e => .err e
  | .sl k l => .sl k l
  | .own k l => .own k l
  | .mrow k l => .mrow k l
  | .box cs => .box cs
  | .agg cs => .agg (dropL cs)
  | .tup cs => .tup (dropL cs)
  | .ip cs off => .ip (dropL cs) off
  | .ptr _ _ => .junk
  | .rp _ _ _ _ => .junk
  | .ms _ _ _ _ => .junk
  | .fn f cs => .fn f (dropL cs)
def dropL : List AV → List AV
  | [] => []
  | v :: r => dropV v :: dropL r
end

def ltN : Nat → Nat → Bool
  | _, 0 => false
  | 0, _ + 1 => true
  | n + 1, m + 1 => ltN n m

/-- The place of a number. -/
def posOf : List Nat → Nat → Nat → Option Nat
  | [], _, _ => none
  | x :: r, i, n => match eqN x i with
    | true => some n
    | false => posOf r i (n + 1)

def verN (e j v : Nat) : Nat := match ltN j e with
  | true => v
  | false => 0

def ren (e : Nat) (m : List Blk) (ids : List Nat) : Nat → List AV → Option (List AV)
  | 0, _ => none
  | _ + 1, [] => some []
  | d + 1, v :: r => match ren e m ids d r with
    | none => none
    | some r => match v with
      | .ms id ver lo len => match bnth m id with
        | .row v' _ _ => match eqN ver v' with
          | true => match posOf ids id 0 with
            | some j => some (.ms j (verN e j ver) lo len :: r)
            | none => some (.junk :: r)
          | false => some (.junk :: r)
        | _ => some (.junk :: r)
      | .rp id ver i off => match bnth m id with
        | .row v' _ _ => match eqN ver v' with
          | true => match posOf ids id 0 with
            | some j => some (.rp j (verN e j ver) i off :: r)
            | none => some (.junk :: r)
          | false => some (.junk :: r)
        | _ => some (.junk :: r)
      | .ptr id off => match posOf ids id 0 with
        | some j => some (.ptr j off :: r)
        | none => some (.junk :: r)
      | .agg cs => match ren e m ids d cs with
        | some cs => some (.agg cs :: r)
        | none => none
      | .tup cs => match ren e m ids d cs with
        | some cs => some (.tup cs :: r)
        | none => none
      | .fn f cs => match ren e m ids d cs with
        | some cs => some (.fn f cs :: r)
        | none => none
      | .ip cs off => match ren e m ids d cs with
        | some cs => some (.ip cs off :: r)
        | none => none
      | .own _ _ => none
      | .mrow _ _ => none
      | .box _ => none
      | v => some (v :: r)

def keptOf (vs : List AV) : List Nat → List AV
  | [] => []
  | i :: r => nth vs i :: keptOf vs r

def addAll : List Nat → List Nat → List Nat
  | acc, [] => acc
  | acc, i :: r => match memN i acc with
    | true => addAll acc r
    | false => addAll (acc ++ [i]) r

def upTo : Nat → Nat → List Nat
  | _, 0 => []
  | s, n + 1 => s :: upTo (s + 1) n

def firsts : Nat → Nat → List AV → List AV
  | _, 0, r => r
  | s, n + 1, r => .ptr s 0 :: firsts (s + 1) n r

def canM (e : Nat) (m : List Blk) (ids : List Nat) : List Nat → Nat → Option (List Blk)
  | [], _ => some []
  | id :: r, j => match canM e m ids r (j + 1) with
    | none => none
    | some bs => match bnth m id with
      | .dead => some (.dead :: bs)
      | .cells cs => match ren e m ids 64 cs with
        | some cs => some (.cells cs :: bs)
        | none => none
      | .row v k l => some (.row (verN e j v) k l :: bs)

def canT (e : Nat) (m : List Blk) (ids : List Nat) : List AV → List Nat → Nat → Option (List AV)
  | [], _, _ => some []
  | v :: vs, [], i => match canT e m ids vs [] (i + 1) with
    | some r => some (dropV v :: r)
    | none => none
  | v :: vs, k :: ks, i => match eqN k i with
    | true => match canT e m ids vs ks (i + 1) with
      | some r => match ren e m ids 64 [v] with
        | some [v'] => some (v' :: r)
        | _ => none
      | none => none
    | false => match canT e m ids vs (k :: ks) (i + 1) with
      | some r => some (dropV v :: r)
      | none => none

/-- The state with what is kept alone, its blocks numbered anew (the first e of them as they are). -/
def canon (e : Nat) (keep : List Nat) (s : St) : Option St :=
  match idsOf s.m 200 (firsts 0 e (keptOf s.t keep)) with
  | none => none
  | some is => match canT e s.m (addAll (upTo 0 e) is) s.t keep 0 with
    | none => none
    | some t => match canM e s.m (addAll (upTo 0 e) is) (addAll (upTo 0 e) is) 0 with
      | none => none
      | some m => some ⟨t, m⟩

/-- Something holds of a state, as it is or tidied. -/
def Tidy (e : Nat) (R : St → Prop) (s : St) : Prop := R s ∨ ∃ keep s0, canon e keep s = some s0 ∧ R s0

inductive Ex where
  | normal
  | exit (id : Nat)
  | ret

inductive AC where
  | skip
  | reg (is : List Ins)
  | any (l : List (List Ins))
  | seq (a b : AC)
  | cond (c : O) (a b : AC)
  | block (id : Nat) (a : AC)
  | loop (a : AC)
  | exit (id : Nat)
  | ret

/-- What must hold ahead of a code (e: so many blocks keep their numbers). -/
def awp (e : Nat) (C : Tab) : AC → (Ex → St → Prop) → St → Prop
  | .skip, Q, s => Q .normal s
  | .reg is, Q, s => evR C (Q .normal) is s
  | .any l, Q, s => allR C (Q .normal) l s
  | .seq a b, Q, s => awp e C a (fun x s' => match x with | .normal => Tidy e (awp e C b Q) s' | x => Q x s') s
  | .cond c a b, Q, s => match c.get s with
    | .bool t => match t with
      | true => awp e C a Q s
      | false => awp e C b Q s
    | _ => False
  | .block id a, Q, s => awp e C a (fun x s' => match x with | .exit j => (match eqN j id with | true => Q .normal s' | false => Q (.exit j) s') | x => Q x s') s
  | .loop a, Q, s => ∃ (R : Nat → St → Prop) (n : Nat), Tidy e (R n) s ∧ ∀ n s, R n s → awp e C a (fun x s' => match x with | .normal => ∃ n', n' < n ∧ Tidy e (R n') s' | x => Q x s') s
  | .exit id, Q, s => Q (.exit id) s
  | .ret, Q, s => Q .ret s

/-- A function: its variables, how its results are told, its code. -/
inductive RV where
  | t (i : Nat)
  | cell (i : Nat) (agg : Bool) (n : Nat)

structure AF where
  nt : Nat
  rs : List RV
  c : AC

def rvA (s : St) : RV → Option AV
  | .t i => some (nth s.t i)
  | .cell i agg n => ldA s.m agg n (nth s.t i)

def resA (s : St) (rs : List RV) : Option AV :=
  match mapO (rvA s) rs with
  | some [v] => some v
  | some vs => some (.tup vs)
  | none => none

/-- The state in which a call begins, and what its arguments are there. -/
def entryA (nt : Nat) (as : List AV) : Option (List AV × St) :=
  match land 64 as [] with
  | some (vs, m) => some (vs, ⟨vs ++ List.replicate (nt - vs.length) .undef, m⟩)
  | none => none

def outsOf : List Mode → List AV → List AV
  | md :: ms, v :: vs => match wrote md with
    | true => v :: outsOf ms vs
    | false => outsOf ms vs
  | _, _ => []

/-- What a call gives back. -/
def finA (c : Con) (vs : List AV) (r : AV) (m : List Blk) : Option (AV × List AV) :=
  match hand true m (c.rm :: wrotes c.ms) (r :: outsOf c.ms vs) with
  | some (r' :: os, _) => some (r', os)
  | _ => none

/-- A function does what its contract says. -/
def Does (C : Tab) (f : AF) (c : Con) (as : List AV) : Prop :=
  match c.run as with
  | none => True
  | some out => match entryA f.nt as with
    | none => False
    | some (vs, s) => awp s.m.length C f.c (fun e s => match e with
      | .exit _ => False
      | _ => match resA s f.rs with
        | some r => finA c vs r s.m = some out
        | none => False) s

/-! ### Reckoning: what opens a code, step by step -/

attribute [go_sem] allR Does entryA land resA rvA finA outsOf wrote wrotes noBox hand mapO taken noTwice killAll conv im plain whole asList castK awp evR evI nilQ stepI O.get O.i O.b St.put binA intA kq eqL eqC ldA ldbA mkV cellsOf stA isCells ldbA splice cut iaA lenA slcA slsA bnd appA maxA minA fillA elemsA elemA killMs frz leaf dec enc wid callA callP primL primR back backR backC anyM idsOf leak lent kdImm Con.leaks Con.pure Con.rows Mode.pure zeroK
theorem eqN_00 : eqN 0 0 = true := rfl
theorem eqN_0s (n : Nat) : eqN 0 (n + 1) = false := rfl
theorem eqN_s0 (n : Nat) : eqN (n + 1) 0 = false := rfl

theorem map_cons' {α β : Type} (f : α → β) (a : α) (l : List α) : List.map f (a :: l) = f a :: List.map f l := rfl
theorem map_nil' {α β : Type} (f : α → β) : List.map f [] = [] := rfl
theorem drop_zero' {α : Type} (l : List α) : List.drop 0 l = l := rfl
theorem drop_succ' {α : Type} (n : Nat) (a : α) (l : List α) : List.drop (n + 1) (a :: l) = List.drop n l := rfl
theorem get_nil' {α : Type} (n : Nat) : ([] : List α)[n]? = none := rfl
theorem or_t' (b : Bool) : (true || b) = true := rfl
theorem or_f' (b : Bool) : (false || b) = b := rfl
theorem and_t' (b : Bool) : (true && b) = b := rfl
theorem and_f' (b : Bool) : (false && b) = false := rfl
theorem not_t' : (!true) = false := rfl
theorem not_f' : (!false) = true := rfl
theorem bool_tt : (true == true) = true := rfl
theorem bool_ff : (false == false) = true := rfl
theorem bool_tf : (true == false) = false := rfl
theorem bool_ft : (false == true) = false := rfl

attribute [go_sem] ltN posOf verN ren keptOf addAll upTo firsts canM canT canon
attribute [go_sem] memN map_cons' map_nil' drop_zero' drop_succ' get_nil' or_t' or_f' and_t' and_f' not_t' not_f' bool_tt bool_ff bool_tf bool_ft
attribute [go_sem] eqN_00 eqN_0s eqN_s0 eqN_self
attribute [go_sem] eqN nth setN bnth setB List.getElem?_cons_zero List.getElem?_cons_succ List.replicate_succ List.replicate_zero List.length_cons List.length_nil List.cons_append List.nil_append List.map_cons List.map_nil List.flatten_cons List.flatten_nil List.take_succ_cons List.take_zero List.drop_succ_cons List.drop_zero List.any_cons List.any_nil List.all_cons List.all_nil Option.map_some Option.map_none

end Go.Proofs.Ytnghlmogcbmlfaa
