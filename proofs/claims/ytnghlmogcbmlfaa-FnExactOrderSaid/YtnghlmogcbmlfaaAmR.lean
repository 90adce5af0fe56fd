/- The model's codes, read as codes of the small machine: closed reckonings over a program's tables. -/
import Derived.Test.YtnghlmogcbmlfaaAmB
import Derived.Orders
namespace Go.Proofs.Ytnghlmogcbmlfaa
set_option linter.unusedVariables false
set_option linter.unusedSimpArgs false

/-- Which kind an element type is of. -/
abbrev KT := List (TypeId × Kd)

def KT.get (kt : KT) (t : TypeId) : Option Kd := (kt.find? (·.1 == t)).map (·.2)

def inKB (k : IntKind) (n : Int) : Bool := decide (k.min ≤ n) && decide (n ≤ k.max)

/-- A value of the text as a value of the small machine. -/
def constA : Nat → Value → Option AV
  | 0, _ => none
  | d + 1, v => match v with
    | .bool b => some (.bool b)
    | .int k n => if inKB k n then some (.int k n) else none
    | .string s => if s.size ≤ 4096 then some (.str s) else none
    | .slice none 0 0 => some .nil
    | .nilIface => some (.err false)
    | .nilFunc => some .junk
    | .pointer none => some .junk
    | .func (.func f) a b => if a.isEmpty && b.isEmpty then some (.fn f []) else none
    | .agg cs => match mapO (constA d) cs.toList with
      | some l => some (.agg l)
      | none => none
    | _ => none

def resO : Operand → Option O
  | .tmp t => some (.t t)
  | .const v => match constA 3 v with
    | some a => some (.c a)
    | none => none
  | .func f => some (.c (.fn f []))
  | .global _ => none

def aggT (P : Program) (t : TypeId) : Option Bool :=
  match P.underlying t with
  | some (.struct _) | some (.array _ _) => some true
  | some _ => some false
  | none => none

def sizeT (P : Program) (t : TypeId) : Option Nat :=
  match P.info? t with
  | some i => some i.size
  | none => none

def zeroT (P : Program) (t : TypeId) : Option AV :=
  match P.info? t with
  | some i => match i.zero with
    | some v => constA 3 v
    | none => none
  | none => none

/-- The kind of an element type, its cells being so many, its bytes no more than 256. -/
def kdT (P : Program) (kt : KT) (t : TypeId) : Option Kd :=
  match kt.get t, P.info? t with
  | some k, some i => match i.zero with
    | some z => if i.size = wid k ∧ i.bytes ≤ 128 ∧ z.cells.size = wid k then some k else none
    | none => none
  | _, _ => none

def primT (P : Program) (t : TypeId) : Option Pr :=
  match P.underlying t with
  | some (.int _) => some .i
  | some .bool => some .b
  | some .string => some .s
  | _ => none

def prims (P : Program) : Nat → List Field → Option (List Pr)
  | _, [] => some []
  | i, f :: r => match primT P f.type, prims P (i + 1) r with
    | some p, some q => if f.name ≠ "_" ∧ f.offset = i then some (p :: q) else none
    | _, _ => none

/-- A struct whose fields are cells in order, of whole numbers, texts and bools. -/
def flatT (P : Program) (t : TypeId) : Option (List Pr) :=
  match P.underlying t with
  | some (.struct fs) => if P.stoodInHeld t = false ∧ P.eqGuardType P.depth t = false then prims P 0 fs.toList else none
  | _ => none

def isMany (x : Array (Nat × Operand)) : Bool := x.toList.zipIdx.all fun (p, i) => p.1 == i

/-- How an operation is taken where the order is open: a load out of a variable alone; a call that makes nothing; a call that makes rows alone. -/
inductive How where
  | any | boxed | pure | rows | still
  deriving DecidableEq

def resI (P : Program) (kt : KT) (how : How) (o : Oper) : Option AI :=
  match o.op with
  | .move x | .assign x => do some (.mv (← resO x))
  | .pick c a b => do some (.pick (← resO c) (← resO a) (← resO b))
  | .alloc e => do some (.box (.c (← zeroT P e)))
  | .box _ x => do some (.box (← resO x))
  | .build t ps => do
    let z ← zeroT P t
    match P.underlying t with
    | some (.struct fs) => do
      let q ← mapO (fun (p : Nat × Operand) => do
        let f ← fs[p.1]?
        some (f.offset, ← sizeT P f.type, ← resO p.2)) ps.toList
      if fs.toList.all fun f => (sizeT P f.type).isSome then some (.build (cellsOf z) q) else none
    | some (.array _ e) => do
      let n ← sizeT P e
      let q ← mapO (fun (p : Nat × Operand) => do some (p.1 * n, n, ← resO p.2)) ps.toList
      some (.build (cellsOf z) q)
    | _ => none
  | .buildSlice t len ps => match P.underlying t with
    | some (.slice e) => do
      let k ← kdT P kt e
      if isMany ps && ps.size == len && decide (len ≤ 4096) then some (.slit k (← mapO (fun (p : Nat × Operand) => resO p.2) ps.toList)) else none
    | _ => none
  | .load t x => do
    let a ← aggT P t
    let n ← sizeT P t
    let y ← resO x
    some (if how = .boxed then .ldb a n y else .ld a n y)
  | .store t a x => do some (.st (← sizeT P t) (← resO a) (← resO x))
  | .nilCheck x => do some (.nc (← resO x))
  | .binOp op t x y _ => match P.underlying t with
    | some (.int _) | some .string => do some (.bin op (← resO x) (← resO y))
    | some .bool => match op with
      | .eql => do some (.eqb false (← resO x) (← resO y))
      | .neq => do some (.eqb true (← resO x) (← resO y))
      | _ => none
    | some (.interface _) => match op, y with
      | .eql, .const .nilIface => do some (.eqe false (← resO x))
      | .neq, .const .nilIface => do some (.eqe true (← resO x))
      | _, _ => none
    | some (.struct _) => match op with
      | .eql => do some (.eqa false (← flatT P t) (← resO x) (← resO y))
      | .neq => do some (.eqa true (← flatT P t) (← resO x) (← resO y))
      | _ => none
    | some (.slice _) => match op, y with
      | .eql, .const (.slice none 0 0) => do some (.isnil false (← resO x))
      | .neq, .const (.slice none 0 0) => do some (.isnil true (← resO x))
      | _, _ => none
    | _ => none
  | .unOp op _ x => match op with
    | .not | .neg | .xor => do some (.un op (← resO x))
    | _ => none
  | .convert src dst x => match P.underlying src, P.underlying dst with
    | some (.int _), some (.int k) => do some (.conv k (← resO x))
    | some (.slice e), some .string => match P.underlying e with
      | some (.int .u8) => do some (.b2s (← resO x))
      | _ => none
    | some .string, some (.slice e) => match P.underlying e with
      | some (.int .u8) => if kdT P kt e == some .u8 then do some (.s2b (← resO x)) else none
      | _ => none
    | some .string, some .string => do some (.strv (← resO x))
    | _, _ => none
  | .makeSlice t l c => match P.underlying t with
    | some (.slice e) => do
      let k ← kdT P kt e
      let z ← zeroT P e
      some (.mk k (← dec k (cellsOf z)) (← resO l) (← resO c))
    | _ => none
  | .slice t x lo hi mx => match P.underlying t with
    | some .string => match mx with
      | none => do some (.sls (← resO x) (← optO lo) (← optO hi))
      | some _ => none
    | some (.slice e) => match mx with
      | none => do
        let k ← kdT P kt e
        some (.slc k (← resO x) (← optO lo) (← optO hi))
      | some m => match hi, m with
        | some (.const (.int .i64 0)), .const (.int .i64 0) => match lo with
          | none => do
            let _ ← kdT P kt e
            some (.sl0 (← resO x))
          | some (.const (.int .i64 0)) => do
            let _ ← kdT P kt e
            some (.sl0 (← resO x))
          | _ => none
        | _, _ => none
    | _ => none
  | .fieldAddr s x f => match P.underlying s with
    | some (.struct fs) => do
      let g ← fs[f]?
      if (← sizeT P g.type) = 0 then none else some (.fa g.offset (← resO x))
    | _ => none
  | .field t x f => match P.underlying t with
    | some (.struct fs) => do
      let g ← fs[f]?
      some (.fd (← aggT P g.type) g.offset (← sizeT P g.type) (← resO x))
    | _ => none
  | .indexAddr t x i => match P.underlying t with
    | some (.slice e) => do
      let k ← kdT P kt e
      some (.ia k (← resO x) (← resO i))
    | some (.array len e) => do some (.iaa (← sizeT P e) len (← resO x) (← resO i))
    | _ => none
  | .index t x i => match P.underlying t with
    | some (.array len e) => do some (.ix (← aggT P e) (← sizeT P e) len (← resO x) (← resO i))
    | some .string => do some (.ixs (← resO x) (← resO i))
    | _ => none
  | .extract x i => do some (.ex i (← resO x))
  | .makeFunc (.func f) first caps => if first.isEmpty then do some (.mf f (← mapO resO caps.toList)) else none
  | .call c => match c.callee with
    | .value (.func f) => do
      let xs ← mapO resO c.args.toList
      some (if how = .pure then .callp f xs else if how = .rows then .callr f xs else .call f xs)
    | .value x => do some (.callv (← resO x) (← mapO resO c.args.toList))
    | .builtin .len => match c.args.toList, c.argTypes.toList with
      | [x], [t] => match P.underlying t with
        | some (.slice _) => do some (.len (← resO x))
        | some .string => do some (.lens (← resO x))
        | _ => none
      | _, _ => none
    | .builtin .append => match c.args.toList, c.argTypes.toList with
      | [x, y], [t, u] => match P.underlying t, P.underlying u with
        | some (.slice e), some (.slice e') => do
          let k ← kdT P kt e
          if kdT P kt e' == some k then some (.app k (← resO x) (← resO y)) else none
        | some (.slice e), some .string => if kdT P kt e == some .u8 then do some (.apps (← resO x) (← resO y)) else none
        | _, _ => none
      | _, _ => none
    | .builtin .max => match c.args.toList with
      | x :: xs => do some (.mx (← resO x) (← mapO resO xs))
      | [] => none
    | .builtin .min => match c.args.toList with
      | x :: xs => do some (.mn (← resO x) (← mapO resO xs))
      | [] => none
    | _ => none
  | _ => none
where
  optO : Option Operand → Option (Option O)
    | none => some none
    | some x => match resO x with
      | some y => some (some y)
      | none => none

/-- An instruction that reads nothing but what no call writes. -/
def AI.still : AI → AI
  | .ld g n x => .ld0 g n x
  | .ia k x i => .ia0 k x i
  | .len x => .len0 x
  | .slc k x a b => .slc0 k x a b
  | i => i

def resJ (P : Program) (kt : KT) (how : How) (o : Oper) : Option AI :=
  match how with
  | .still => match resI P kt .any o with
    | some i => some i.still
    | none => none
  | how => resI P kt how o

/-- How an instruction meets memory: 0: not at all; 1: it reads variables; 2: it reads; 3: it makes rows, or writes them; 4: whatever. -/
def cls : AI → Nat
  | .mv _ | .pick .. | .build .. | .bin .. | .eqa .. | .eqb .. | .eqe .. | .un .. | .conv .. | .sl0 _ | .sls .. | .fa .. | .fd .. | .iaa .. | .ix .. | .ixs .. | .mx .. | .mn .. | .mf .. | .nc _ | .ex .. | .lens _ | .strv _ | .ld0 .. | .ia0 .. | .len0 _ | .slc0 .. => 0
  | .ldb .. => 1
  | .ld .. | .b2s _ | .slc .. | .ia .. | .len _ | .callp .. => 2
  | .slit .. | .mk .. | .s2b _ | .app .. | .apps .. | .cpy .. | .callr .. => 3
  | _ => 4

/-- Does it make a block, and nothing else to memory? -/
def isNew : AI → Bool
  | .box _ => true
  | .mk .. => true
  | .s2b _ => true
  | _ => false

/-- The operands of an instruction. -/
def AI.opsL : AI → List O
  | .mv x | .box x | .ld _ _ x | .ldb _ _ x | .ld0 _ _ x | .len0 x | .eqe _ x | .un _ x | .conv _ x | .b2s x | .s2b x | .sl0 x | .fa _ x | .fd _ _ _ x | .len x | .lens x | .strv x | .isnil _ x | .nc x | .ex _ x => [x]
  | .pick c a b => [c, a, b]
  | .build _ ps => ps.map fun p => p.2.2
  | .slit _ xs | .call _ xs | .callp _ xs | .callr _ xs | .mf _ xs => xs
  | .st _ x v => [x, v]
  | .bin _ x y | .eqa _ _ x y | .eqb _ x y | .ia _ x y | .ia0 _ x y | .iaa _ _ x y | .ix _ _ _ x y | .ixs x y | .app _ x y | .apps x y | .cpy x y => [x, y]
  | .mk _ _ a b => [a, b]
  | .slc _ x a b | .slc0 _ x a b | .sls x a b => x :: (a.toList ++ b.toList)
  | .mx x xs | .mn x xs | .callv x xs => x :: xs

/-- The variables that an instruction looks at. -/
def Ins.looks (y : Ins) : List Nat :=
  (y.o.opsL.filterMap fun x => match x with
    | .t i => some i
    | .c _ => none) ++ (match y.g with
    | some (j, _) => [j]
    | none => [])

def hasNo (l : List Nat) : Option Nat → Bool
  | some d => !memN d l
  | none => true

def unlike : Option Nat → Option Nat → Bool
  | some d, some e => !eqN d e
  | _, _ => true

/-- Neither looks at what the other writes. -/
def apartI (x y : Ins) : Bool := hasNo y.looks x.d && hasNo x.looks y.d && unlike x.d y.d

/-- May two instructions be taken in either order? -/
def freeI (x y : Ins) : Bool := apartI x y && (cls x.o == 0 || cls y.o == 0 || (decide (cls x.o ≤ 2) && decide (cls y.o ≤ 2)) || (decide (cls x.o ≤ 2) && isNew y.o))

def resG (ops : Array Oper) (o : Oper) : Option (Option (Nat × Bool)) :=
  match o.guard with
  | none => some none
  | some (j, w) => match (ops[j]?).bind (·.dst) with
    | some d => some (some (d, w))
    | none => none

/-- Is one operation ahead of another, by so many steps at most? -/
def anc (ops : Array Oper) (i : Nat) : Nat → Nat → Bool
  | 0, _ => false
  | n + 1, j => match ops[j]? with
    | some o => o.after.any fun e => Region.binds .any e && (e.on == i || anc ops i n e.on)
    | none => false

/-- May instructions whose order is open be taken in the order of the text? -/
def calm (ops : Array Oper) (is : List Ins) : Bool :=
  is.zipIdx.all fun (y, j) => match ops[j]? with
    | some o => o.after.all (fun e => !Region.binds .any e || decide (e.on < j)) && is.zipIdx.all fun (x, i) => decide (j ≤ i) || freeI x y || anc ops i 5 j
    | none => false

/-- An operation is taken ahead of the others in a list of places, if it may be. -/
def takeI (is : List Ins) (y : Ins) (i : Nat) : List Nat → Option (List Nat)
  | [] => none
  | j :: r => if j = i then some r else match takeI is y i r, is[j]? with
    | some r', some x => if freeI x y then some (j :: r') else none
    | _, _ => none

/-- In an order: each two may be turned, or the first one is ahead anyhow, or that it is first is what the order is for. -/
def pairsOk (ops : Array Oper) (is : List Ins) (A : List (Nat × Nat)) : List Nat → Bool
  | [] => true
  | x :: r => (r.all fun y => !(x == y) && match is[x]?, is[y]? with
    | some a, some b => freeI a b || ((A.any fun p => p.1 == x && p.2 == y) || anc ops x 40 y)
    | _, _ => false) && pairsOk ops is A r

/-- Whichever of these is taken first, and so on: is there an order for it? -/
def cov (ops : Array Oper) : Nat → List Nat → List (List (Nat × Nat)) → Bool
  | 0, I, _ => I.isEmpty
  | n + 1, I, As => I.all fun i => (I.any fun x => anc ops x 5 i) || (!(As.filter fun A => !(A.any fun p => p.2 == i && I.contains p.1)).isEmpty && cov ops n (I.filter fun x => !(x == i)) (As.filter fun A => !(A.any fun p => p.2 == i && I.contains p.1)))

def intr (reps : List (List Nat × List (Nat × Nat))) : List Nat := (reps.flatMap fun p => p.2.flatMap fun q => [q.1, q.2]).eraseDups

/-- Is each order that may be taken one of these, but for what may be turned? -/
def chk (ops : Array Oper) (is : List Ins) (reps : List (List Nat × List (Nat × Nat))) : Bool :=
  ops.toList.zipIdx.all (fun (o, j) => o.after.all fun e => !Region.binds .any e || decide (e.on < j)) && (
  reps.all (fun p => pairsOk ops is p.2 p.1 && ((List.range ops.size).all (p.1.contains ·) && (decide (p.1.length ≤ ops.size) && p.1.all fun j => decide (j < ops.size)))) && (
  !reps.isEmpty && (decide (is.length = ops.size) && ((intr reps).all (fun j => decide (j < ops.size)) && cov ops (intr reps).length (intr reps) (reps.map (·.2))))))

def pickI (is : List Ins) (l : List Nat) : List Ins := l.filterMap fun i => is[i]?

/-- hs: for each region whose order is open, how its operations are taken, and in which orders, if more than the one of the text is asked for. -/
abbrev Hows := List (Nat × List How × List (List Nat × List (Nat × Nat)))

def howL (hs : Hows) (id n : Nat) : List How := match hs.find? (·.1 == id) with
  | some p => p.2.1
  | none => List.replicate n .any

def repL (hs : Hows) (id : Nat) : List (List Nat × List (Nat × Nat)) := match hs.find? (·.1 == id) with
  | some p => p.2.2
  | none => []

def resR (P : Program) (kt : KT) (hs : Hows) (id : Nat) (ops : Array Oper) (draw : Bool) : Option AC :=
  match zipO (fun o h => match resJ P kt h o, resG ops o with
    | some a, some g => some (Ins.mk o.dst a g)
    | _, _ => none) ops.toList (howL hs id ops.size) with
  | some is => match draw with
    | false => some (.reg is)
    | true => if P.follows .mixedOrders then match repL hs id with
      | [] => if calm ops is then some (.reg is) else none
      | reps => if chk ops is reps then some (.any (reps.map fun p => pickI is p.1)) else none
      else none
  | none => none

def resC (P : Program) (kt : KT) (hs : Hows) : Code → Option AC
  | .skip => some .skip
  | .region id ops draw => resR P kt hs id ops draw
  | .seq a b => match resC P kt hs a, resC P kt hs b with
    | some x, some y => some (.seq x y)
    | _, _ => none
  | .cond c a b => match resO c, resC P kt hs a, resC P kt hs b with
    | some c, some x, some y => some (.cond c x y)
    | _, _, _ => none
  | .block id a => match resC P kt hs a with
    | some x => some (.block id x)
    | none => none
  | .loop a => match resC P kt hs a with
    | some x => some (.loop x)
    | none => none
  | .exit id => some (.exit id)
  | .ret => some .ret
  | _ => none

def resRV (P : Program) : ResultVar → Option RV
  | .tmp t => some (.t t)
  | .cell a t => match aggT P t, sizeT P t with
    | some g, some n => some (.cell a g n)
    | _, _ => none

def resF (P : Program) (kt : KT) (hs : Hows) (f : Func) : Option AF :=
  match f.body with
  | some c => match resC P kt hs c, mapO (resRV P) f.results.toList with
    | some a, some rs => some ⟨f.ntmps, rs, a⟩
    | _, _ => none
  | none => none

end Go.Proofs.Ytnghlmogcbmlfaa
