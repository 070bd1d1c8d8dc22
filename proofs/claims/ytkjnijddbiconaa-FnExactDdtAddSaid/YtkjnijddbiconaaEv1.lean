/- The evaluator: abstract values, abstract states, and what each operation of the model makes of them. Definitions alone. -/
import Derived.Calls
import Derived.Orders
namespace Go.Proofs.Ytkjnijddbiconaa.Ev
open Go

/-! ### Kinds of flat cells -/
inductive CK
  | int (k : IntKind)
  | str
  | bool
  deriving DecidableEq
@[reducible] def CK.T : CK → Type
  | .int _ => Int
  | .str => ByteArray
  | .bool => Bool
def CK.val : (c : CK) → c.T → Value
  | .int k, n => .int k n
  | .str, s => .string s
  | .bool, b => .bool b
def CK.dflt : (c : CK) → c.T
  | .int _ => (0 : Int)
  | .str => ByteArray.empty
  | .bool => false
def CK.ofVal : (c : CK) → Value → Option c.T
  | .int k, .int k' n => if k' = k then some n else none
  | .str, .string s => some s
  | .bool, .bool b => some b
  | _, _ => none
/-- An element of a slice: one component for each of its cells. -/
@[reducible] def Elem : List CK → Type
  | [] => Unit
  | c :: cs => c.T × Elem cs
def vals : (cs : List CK) → Elem cs → List Value
  | [], _ => []
  | c :: cs, e => c.val e.1 :: vals cs e.2
def edflt : (cs : List CK) → Elem cs
  | [] => ()
  | c :: cs => (c.dflt, edflt cs)
def ofVals : (cs : List CK) → List Value → Option (Elem cs)
  | [], [] => some ()
  | c :: cs, v :: vs => match c.ofVal v with
    | some x => match ofVals cs vs with
      | some e => some (x, e)
      | none => none
    | none => none
  | _, _ => none
def flat (cs : List CK) (xs : List (Elem cs)) : List Value := xs.flatMap (vals cs)

/-! ### Abstract values -/
inductive AV
  /-- just this value -/
  | val (v : Value)
  /-- any value -/
  | junk
  /-- an interface value that is not nil -/
  | ifc
  /-- a nil slice -/
  | nsl (cs : List CK)
  /-- a slice that is read only -/
  | rsl (cs : List CK) (xs : List (Elem cs))
  /-- a pointer to flat cells that are read only -/
  | rel (us : List Value)
  /-- a pointer to cells that are read only -/
  | rpt (us : List AV)
  /-- the whole of an own row -/
  | ows (o : Nat)
  /-- n elements of an own row, from lo on -/
  | osl (o lo n : Nat)
  /-- a pointer to cell j of element i of an own row -/
  | oel (o i j : Nat)
  /-- a pointer to cell j of an own box -/
  | ptr (o j : Nat)
  /-- n elements that lie in an own box, from cell j on -/
  | bsl (o j : Nat) (cs : List CK) (n : Nat)
  | agg (us : List AV)
  | fn (f : Nat) (us : List AV)
  | tup (us : List AV)
/-- What a name stands for: the elements of a slice, or the cells of a variable. -/
inductive AO
  | row (cs : List CK) (xs : List (Elem cs))
  | box (us : List AV)
structure Res where
  av : AV
  obs : List AO
  outs : List (Option Nat)

/-! ### Types -/
inductive TD
  | int (k : IntKind)
  | bool
  | str
  | slice (e : Nat)
  | struct (fs : List (Nat × Nat × Nat))     -- offset, size, type
  | array (n e : Nat)
  | iface
  | other
inductive ZK
  | v (v : Value)
  | slc (cs : List CK)
/-- A row of the table of types: the form, the cells, the bytes, the zero value's cells, the kinds if all cells are flat. -/
structure TI where
  d : TD
  size : Nat
  bytes : Nat
  z : List ZK
  cks : List CK
def lookN {α : Type} : List (Nat × α) → Nat → Option α
  | [], _ => none
  | (k, a) :: r, t => if Nat.beq k t then some a else lookN r t
def TI.isAgg (t : TI) : Bool :=
  match t.d with
  | .struct _ | .array _ _ => true
  | _ => false
/-- What is fixed throughout: the types, which functions take own memory over. -/
structure Env where
  tt : List (Nat × TI)
  io : List Nat
  eqs : List Nat      -- types of structs that are held against each other
  code : Code         -- the function's code, and the slots of its results: for what a loop's head keeps
  keep : List Tmp

def zav : ZK → AV
  | .v v => .val v
  | .slc cs => .nsl cs
/-- A constant of a type. -/
def constCell : ZK → Value → AV
  | .slc cs, .slice none 0 0 => .nsl cs
  | _, v => .val v
def constCells : List ZK → List Value → List AV
  | z :: zs, v :: vs => constCell z v :: constCells zs vs
  | _, _ => []
def constAV (ti : Option TI) (v : Value) : Option AV :=
  match v with
  | .agg cs => match ti with
    | some t => match Nat.beq t.z.length cs.size with
      | true => some (.agg (constCells t.z cs.toList))
      | false => none
    | none => none
  | .slice none 0 0 => match ti with
    | some ⟨_, _, _, [.slc cs], _⟩ => some (.nsl cs)
    | _ => none
  | .slice .. => none
  | .tuple _ => none
  | v => some (.val v)

abbrev Tm := Nat → AV
abbrev Ob := Nat → Option AO
/-- An operand's value. -/
def opd (E : Env) (tm : Tm) (t : Nat) : Operand → Option AV
  | .tmp s => some (tm s)
  | .const v => constAV (lookN E.tt t) v
  | .func f => some (.fn f [])
  | .global _ => none

/-! ### Cells -/
/-- A value that one cell can hold. -/
def one : AV → Bool
  | .val (.agg _) => false
  | .val (.tuple _) => false
  | .agg _ => false
  | .tup _ => false
  | .junk => false
  | _ => true
def allOne : List AV → Bool
  | [] => true
  | a :: az => one a && allOne az
def cellsOf : AV → Option (List AV)
  | .agg us => match allOne us with
    | true => some us
    | false => none
  | a => match one a with
    | true => some [a]
    | false => none
def ofCells (ti : TI) (us : List AV) : Option AV :=
  if ti.isAgg then some (.agg us) else match us with
    | [u] => some u
    | _ => none
/-- The first n, just if there are as many. -/
def takeX {α : Type} : Nat → List α → Option (List α)
  | 0, _ => some []
  | n + 1, x :: xs => match takeX n xs with
    | some r => some (x :: r)
    | none => none
  | _ + 1, [] => none
/-- us with the cells from j on overwritten by ns, just if they are there. -/
def spliceX {α : Type} : Nat → List α → List α → Option (List α)
  | 0, [], us => some us
  | 0, n :: ns, _ :: us => match spliceX 0 ns us with
    | some r => some (n :: r)
    | none => none
  | 0, _ :: _, [] => none
  | j + 1, ns, u :: us => match spliceX j ns us with
    | some r => some (u :: r)
    | none => none
  | _ + 1, _, [] => none
def flatAV : AV → Option Value
  | .val v => some v
  | _ => none
def flatAVs : List AV → Option (List Value)
  | [] => some []
  | a :: az => match flatAV a with
    | some v => match flatAVs az with
      | some vs => some (v :: vs)
      | none => none
    | none => none
def elemOf (cs : List CK) (us : List AV) : Option (Elem cs) :=
  match flatAVs us with
  | some vs => ofVals cs vs
  | none => none
def readAt (ob : Ob) (size : Nat) : AV → Option (List AV)
  | .ptr o j => match ob o with
    | some (.box us) => takeX size (us.drop j)
    | _ => none
  | .oel o i j => match ob o with
    | some (.row cs xs) => takeX size (((vals cs (xs.getD i (edflt cs))).drop j).map .val)
    | _ => none
  | .rel us => takeX size (us.map .val)
  | .rpt us => takeX size us
  | _ => none
/-- Values that fit the cells of an element from the j-th on. -/
def fits : List CK → Nat → List Value → Bool
  | _, 0, [] => true
  | [], 0, _ :: _ => false
  | c :: cs, 0, v :: vs => match c.ofVal v with
    | some _ => fits cs 0 vs
    | none => false
  | _ :: cs, j + 1, vs => fits cs j vs
  | [], _ + 1, _ => false
def putV : (cs : List CK) → Nat → List Value → Elem cs → Elem cs
  | [], _, _, e => e
  | _ :: _, 0, [], e => e
  | c :: cs, 0, v :: vs, e => ((match c.ofVal v with | some y => y | none => e.1), putV cs 0 vs e.2)
  | _ :: cs, j + 1, vs, e => (e.1, putV cs j vs e.2)
/-- A row with cells of its i-th element overwritten, from the j-th cell on. -/
def updR (cs : List CK) (xs : List (Elem cs)) (i j : Nat) (vs : List Value) : List (Elem cs) := xs.set i (putV cs j vs (xs.getD i (edflt cs)))
def writeAt (ob : Ob) (ns : List AV) : AV → Option (List (Nat × Option AO))
  | .ptr o j => match ob o with
    | some (.box us) => match spliceX j ns us with
      | some us' => some [(o, some (.box us'))]
      | none => none
    | _ => none
  | .oel o i j => match ob o with
    | some (.row cs xs) => match flatAVs ns with
      | some vs => match Nat.blt 8 cs.length && Nat.blt vs.length cs.length with
        | true => match fits cs j vs with
          | true => some [(o, some (.row cs (updR cs xs i j vs)))]
          | false => none
        | false => match spliceX j vs (vals cs (xs.getD i (edflt cs))) with
          | some ws => match ofVals cs ws with
            | some e => some [(o, some (.row cs (xs.set i e)))]
            | none => none
          | none => none
      | none => none
    | _ => none
  | _ => none
def addOff (n : Nat) : AV → Option AV
  | .ptr o j => some (.ptr o (j + n))
  | .oel o i j => some (.oel o i (j + n))
  | .rel us => some (.rel (us.drop n))
  | .rpt us => some (.rpt (us.drop n))
  | _ => none
/-- Elements that lie one behind the other among flat cells. -/
def elemsX (cs : List CK) : Nat → List AV → Option (List (Elem cs))
  | 0, _ => some []
  | n + 1, us => match takeX cs.length us with
    | some h => match elemOf cs h with
      | some e => match elemsX cs n (us.drop cs.length) with
        | some r => some (e :: r)
        | none => none
      | none => none
    | none => none
def castE (cs cs' : List CK) (xs : List (Elem cs')) : Option (List (Elem cs)) :=
  if h : cs' = cs then some (h ▸ xs) else none
/-- The elements of a slice. -/
def elems (ob : Ob) (cs : List CK) : AV → Option (List (Elem cs))
  | .nsl _ => some []
  | .rsl cs' xs => castE cs cs' xs
  | .ows o => match ob o with
    | some (.row cs' xs) => castE cs cs' xs
    | _ => none
  | .osl o lo n => match ob o with
    | some (.row cs' xs) => castE cs cs' ((xs.drop lo).take n)
    | _ => none
  | .bsl o j cs' n => match ob o with
    | some (.box us) => match elemsX cs' n (us.drop j) with
      | some xs => castE cs cs' xs
      | none => none
    | _ => none
  | _ => none
def lenAV (ob : Ob) : AV → Option Nat
  | .nsl _ => some 0
  | .rsl _ xs => some xs.length
  | .ows o => match ob o with
    | some (.row _ xs) => some xs.length
    | _ => none
  | .osl _ _ n => some n
  | .bsl _ _ _ n => some n
  | .val (.string s) => some s.size
  | _ => none
def kindsOf (E : Env) (t : Nat) : Option (TI × List CK) :=
  match lookN E.tt t with
  | some ⟨.slice e, _, _, _, _⟩ => match lookN E.tt e with
    | some ti => some (ti, ti.cks)
    | none => none
  | _ => none

/-! ### Whole numbers, strings: a condition, and the value where it holds -/
abbrev CV := Bool × AV
def sure (v : Value) : Option CV := some (true, .val v)
def intOp (op : BinOp) (k : IntKind) (a b : Int) : Option CV :=
  match op with
  | .add => sure (.int k (k.wrap (a + b)))
  | .sub => sure (.int k (k.wrap (a - b)))
  | .mul => sure (.int k (k.wrap (a * b)))
  | .quo => some (!decide (b = 0), .val (.int k (k.wrap (a.tdiv b))))
  | .rem => some (!decide (b = 0), .val (.int k (a.tmod b)))
  | .and => sure (.int k (k.wrap (BitVec.ofInt k.bits a &&& BitVec.ofInt k.bits b).toNat))
  | .or => sure (.int k (k.wrap (BitVec.ofInt k.bits a ||| BitVec.ofInt k.bits b).toNat))
  | .xor => sure (.int k (k.wrap (BitVec.ofInt k.bits a ^^^ BitVec.ofInt k.bits b).toNat))
  | .andNot => sure (.int k (k.wrap (BitVec.ofInt k.bits a &&& ~~~BitVec.ofInt k.bits b).toNat))
  | .eql => sure (.bool (a == b))
  | .neq => sure (.bool (a != b))
  | .lss => sure (.bool (decide (a < b)))
  | .leq => sure (.bool (decide (a ≤ b)))
  | .gtr => sure (.bool (decide (a > b)))
  | .geq => sure (.bool (decide (a ≥ b)))
  | _ => none
def shiftOp (op : BinOp) (k : IntKind) (a b : Int) : Option CV :=
  match op with
  | .shl => some (!decide (b < 0), .val (.int k (k.wrap (a * 2 ^ (min b.toNat k.bits)))))
  | .shr => some (!decide (b < 0), .val (.int k (a.fdiv (2 ^ (min b.toNat k.bits)))))
  | _ => none
def strEq (x y : ByteArray) : Bool := x.toList == y.toList
def strLt (x y : ByteArray) : Bool := Op.bytesLess x.toList y.toList
def strOp (op : BinOp) (x y : ByteArray) : Option CV :=
  match op with
  | .add => some (decide (x.size + y.size ≤ 9223372036854775807), .val (.string (x ++ y)))
  | .eql => sure (.bool (strEq x y))
  | .neq => sure (.bool (!strEq x y))
  | .lss => sure (.bool (strLt x y))
  | .leq => sure (.bool (strLt x y || strEq x y))
  | .gtr => sure (.bool (!(strLt x y || strEq x y)))
  | .geq => sure (.bool (!strLt x y))
  | _ => none
def ckEq : (c : CK) → c.T → c.T → Bool
  | .int _, a, b => (a : Int) == b
  | .str, a, b => strEq a b
  | .bool, a, b => (a : Bool) == b
def elemEq : (cs : List CK) → Elem cs → Elem cs → Bool
  | [], _, _ => true
  | [c], a, b => ckEq c a.1 b.1
  | c :: c' :: cs, a, b => ckEq c a.1 b.1 && elemEq (c' :: cs) a.2 b.2
def structEq (ti : Option TI) (us vs : List AV) : Option Bool :=
  match ti with
  | some t => match elemOf t.cks us, elemOf t.cks vs with
    | some a, some b => some (elemEq t.cks a b)
    | _, _ => none
  | none => none
def eqOp (op : BinOp) (r : Option Bool) : Option CV :=
  match op, r with
  | .eql, some b => sure (.bool b)
  | .neq, some b => sure (.bool (!b))
  | _, _ => none
def isConst : Operand → Bool
  | .const _ => true
  | _ => false
def ifaceT (tt : List (Nat × TI)) (t : Nat) : Bool :=
  match lookN tt t with
  | some ⟨.iface, _, _, _, _⟩ => true
  | _ => false
def binOpA (E : Env) (op : BinOp) (t : Nat) (cy : Bool) (x y : AV) : Option CV :=
  match x, y with
  | .val (.int k a), .val (.int k' b) => match op with
    | .shl => shiftOp .shl k a b
    | .shr => shiftOp .shr k a b
    | op => if k = k' then intOp op k a b else none
  | .val (.string a), .val (.string b) => strOp op a b
  | .val (.bool a), .val (.bool b) => match lookN E.tt t with
    | some ⟨.bool, _, _, _, _⟩ => eqOp op (some (a == b))
    | _ => none
  | .agg us, .agg vs => if E.eqs.contains t then eqOp op (structEq (lookN E.tt t) us vs) else none
  | .ifc, .val .nilIface => if ifaceT E.tt t then eqOp op (some false) else none
  | .val .nilIface, .val .nilIface => if ifaceT E.tt t && cy then eqOp op (some true) else none
  | _, _ => none
def unOpA (op : UnOp) (x : AV) : Option CV :=
  match op, x with
  | .neg, .val (.int k a) => sure (.int k (k.wrap (0 - a)))
  | .not, .val (.bool b) => sure (.bool (!b))
  | _, _ => none
def strOf (xs : List (Elem [.int .u8])) : ByteArray := ⟨(xs.map fun e => UInt8.ofNat (e.1 : Int).toNat).toArray⟩
def bytesT (tt : List (Nat × TI)) (t : Nat) : Bool :=
  match lookN tt t with
  | some ⟨.slice e, _, _, _, _⟩ => match lookN tt e with
    | some ⟨.int .u8, _, _, _, _⟩ => true
    | _ => false
  | _ => false
def convA (tt : List (Nat × TI)) (ob : Ob) (src dst : Nat) (x : AV) : Option CV :=
  match lookN tt dst with
  | some ⟨.int k, _, _, _, _⟩ => match x, lookN tt src with
    | .val (.int _ n), some _ => sure (.int k (k.wrap n))
    | _, _ => none
  | some ⟨.str, _, _, _, _⟩ => match x with
    | .val (.string s) => match lookN tt src with
      | some _ => sure (.string s)
      | none => none
    | a => if bytesT tt src then match elems ob [.int .u8] a with
        | some xs => sure (.string (strOf xs))
        | none => none
      else none
  | _ => none
def byteAt (s : ByteArray) (i : Int) : Int := if h : i.toNat < s.size then ((s[i.toNat]'h).toNat : Int) else 0
end Go.Proofs.Ytkjnijddbiconaa.Ev
