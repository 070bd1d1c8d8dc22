/- The evaluator: abstract values, abstract states, and what each operation of the model makes of them. Definitions alone. -/
import Derived.Calls
import Derived.Orders
import Derived.WalkKit
import Derived.Laws.Append
import Derived.Laws.CopyRow
import Derived.Laws.MakeOwn
import Derived.Deep.MidRow
import Derived.Laws.StructEq
import Derived.Laws.BytesArg
import Derived.Laws.BytesString
import Derived.Laws.Tables
import Derived.Great.BuildSlice
namespace Go.Proofs.YtkjnijddbiconaaGreatDoor.Ev
open Go
inductive CK
  | int (k : IntKind)
  | str
  | bool
  deriving DecidableEq
@[reducible] def CK.T : CK → Type
  | .int _ => Int
  | .str => ByteArray
  | .bool => Bool
def CK.val : (c : CK) → c.T → Value
  | .int k, n => .int k n
  | .str, s => .string s
  | .bool, b => .bool b
def CK.dflt : (c : CK) → c.T
  | .int _ => (0 : Int)
  | .str => ByteArray.empty
  | .bool => false
def CK.ofVal : (c : CK) → Value → Option c.T
  | .int k, .int k' n => if k' = k then some n else none
  | .str, .string s => some s
  | .bool, .bool b => some b
  | _, _ => none
@[reducible] def Elem : List CK → Type
  | [] => Unit
  | c :: cs => c.T × Elem cs
def vals : (cs : List CK) → Elem cs → List Value
  | [], _ => []
  | c :: cs, e => c.val e.1 :: vals cs e.2
def edflt : (cs : List CK) → Elem cs
  | [] => ()
  | c :: cs => (c.dflt, edflt cs)
def ofVals : (cs : List CK) → List Value → Option (Elem cs)
  | [], [] => some ()
  | c :: cs, v :: vs => match c.ofVal v with
    | some x => match ofVals cs vs with
      | some e => some (x, e)
      | none => none
    | none => none
  | _, _ => none
def flat(cs : List CK)(xs : List (Elem cs)) : List Value := xs.flatMap (vals cs)
inductive AV
  | val (v : Value)
  | junk
  | cel
  | ifc
  | nsl (cs : List CK)
  | rsl (cs : List CK) (xs : List (Elem cs))
  | rel (us : List Value)
  | rpt (us : List AV)
  | ows (o : Nat)
  | osl (o lo n : Nat)
  | oel (o i j : Nat)
  | ptr (o j : Nat)
  | bsl (o j : Nat) (cs : List CK) (n : Nat)
  | agg (us : List AV)
  | fn (f : Nat) (us : List AV)
  | tup (us : List AV)
inductive AO
  | row (cs : List CK) (xs : List (Elem cs))
  | box (us : List AV)
structure Res where
  av : AV
  obs : List AO
  outs : List (Option Nat)
inductive TD
  | int (k : IntKind)
  | bool
  | str
  | slice (e : Nat)
  | struct (fs : List (Nat × Nat × Nat))     -- offset, size, type
  | array (n e : Nat)
  | iface
  | other
inductive ZK
  | v (v : Value)
  | slc (cs : List CK)
structure TI where
  d : TD
  size : Nat
  bytes : Nat
  z : List ZK
  cks : List CK
def lookN{α : Type} : List (Nat × α) → Nat → Option α
  | [], _ => none
  | (k, a) :: r, t => if Nat.beq k t then some a else lookN r t
def TI.isAgg(t : TI) : Bool :=
  match t.d with
  | .struct _ | .array _ _ => true
  | _ => false
structure Env where
  tt : List (Nat × TI)
  io : List Nat
  eqs : List Nat      -- types of structs that are held against each other
  code : Code         -- the function's code, and the slots of its results: for what a loop's head keeps
  keep : List Tmp
def zav : ZK → AV
  | .v v => .val v
  | .slc cs => .nsl cs
def constCell : ZK → Value → AV
  | .slc cs, .slice none 0 0 => .nsl cs
  | _, v => .val v
def constCells : List ZK → List Value → List AV
  | z :: zs, v :: vs => constCell z v :: constCells zs vs
  | _, _ => []
def constAV(ti : Option TI)(v : Value) : Option AV :=
  match v with
  | .agg cs => match ti with
    | some t => match Nat.beq t.z.length cs.size with
      | true => some (.agg (constCells t.z cs.toList))
      | false => none
    | none => none
  | .slice none 0 0 => match ti with
    | some ⟨_, _, _, [.slc cs], _⟩ => some (.nsl cs)
    | _ => none
  | .slice .. => none
  | .tuple _ => none
  | v => some (.val v)
abbrev Tm := Nat → AV
abbrev Ob := Nat → Option AO
def opd(E : Env)(tm : Tm)(t : Nat) : Operand → Option AV
  | .tmp s => some (tm s)
  | .const v => constAV (lookN E.tt t) v
  | .func f => some (.fn f [])
  | .global _ => none
def one : AV → Bool
  | .val (.agg _) => false
  | .val (.tuple _) => false
  | .agg _ => false
  | .tup _ => false
  | .junk => false
  | _ => true
def allOne : List AV → Bool
  | [] => true
  | a :: az => one a && allOne az
def cellsOf : AV → Option (List AV)
  | .agg us => match allOne us with
    | true => some us
    | false => none
  | a => match one a with
    | true => some [a]
    | false => none
def ofCells(ti : TI)(us : List AV) : Option AV :=
  if ti.isAgg then some (.agg us) else match us with
    | [u] => some u
    | _ => none
def takeX{α : Type} : Nat → List α → Option (List α)
  | 0, _ => some []
  | n + 1, x :: xs => match takeX n xs with
    | some r => some (x :: r)
    | none => none
  | _ + 1, [] => none
def spliceX{α : Type} : Nat → List α → List α → Option (List α)
  | 0, [], us => some us
  | 0, n :: ns, _ :: us => match spliceX 0 ns us with
    | some r => some (n :: r)
    | none => none
  | 0, _ :: _, [] => none
  | j + 1, ns, u :: us => match spliceX j ns us with
    | some r => some (u :: r)
    | none => none
  | _ + 1, _, [] => none
def flatAV : AV → Option Value
  | .val v => some v
  | _ => none
def flatAVs : List AV → Option (List Value)
  | [] => some []
  | a :: az => match flatAV a with
    | some v => match flatAVs az with
      | some vs => some (v :: vs)
      | none => none
    | none => none
def elemOf(cs : List CK)(us : List AV) : Option (Elem cs) :=
  match flatAVs us with
  | some vs => ofVals cs vs
  | none => none
def readAt(ob : Ob)(size : Nat) : AV → Option (List AV)
  | .ptr o j => match ob o with
    | some (.box us) => takeX size (us.drop j)
    | _ => none
  | .oel o i j => match ob o with
    | some (.row cs xs) => takeX size (((vals cs (xs.getD i (edflt cs))).drop j).map .val)
    | _ => none
  | .rel us => takeX size (us.map .val)
  | .rpt us => takeX size us
  | _ => none
def fits : List CK → Nat → List Value → Bool
  | _, 0, [] => true
  | [], 0, _ :: _ => false
  | c :: cs, 0, v :: vs => match c.ofVal v with
    | some _ => fits cs 0 vs
    | none => false
  | _ :: cs, j + 1, vs => fits cs j vs
  | [], _ + 1, _ => false
def putV : (cs : List CK) → Nat → List Value → Elem cs → Elem cs
  | [], _, _, e => e
  | _ :: _, 0, [], e => e
  | c :: cs, 0, v :: vs, e => ((match c.ofVal v with | some y => y | none => e.1), putV cs 0 vs e.2)
  | _ :: cs, j + 1, vs, e => (e.1, putV cs j vs e.2)
def updR(cs : List CK)(xs : List (Elem cs))(i j : Nat)(vs : List Value) : List (Elem cs) := xs.set i (putV cs j vs (xs.getD i (edflt cs)))
def writeAt(ob : Ob)(ns : List AV) : AV → Option (List (Nat × Option AO))
  | .ptr o j => match ob o with
    | some (.box us) => match spliceX j ns us with
      | some us' => some [(o, some (.box us'))]
      | none => none
    | _ => none
  | .oel o i j => match ob o with
    | some (.row cs xs) => match flatAVs ns with
      | some vs => match Nat.blt 8 cs.length && Nat.blt vs.length cs.length with
        | true => match fits cs j vs with
          | true => some [(o, some (.row cs (updR cs xs i j vs)))]
          | false => none
        | false => match spliceX j vs (vals cs (xs.getD i (edflt cs))) with
          | some ws => match ofVals cs ws with
            | some e => some [(o, some (.row cs (xs.set i e)))]
            | none => none
          | none => none
      | none => none
    | _ => none
  | _ => none
def addOff(n : Nat) : AV → Option AV
  | .ptr o j => some (.ptr o (j + n))
  | .oel o i j => some (.oel o i (j + n))
  | .rel us => some (.rel (us.drop n))
  | .rpt us => some (.rpt (us.drop n))
  | _ => none
def elemsX(cs : List CK) : Nat → List AV → Option (List (Elem cs))
  | 0, _ => some []
  | n + 1, us => match takeX cs.length us with
    | some h => match elemOf cs h with
      | some e => match elemsX cs n (us.drop cs.length) with
        | some r => some (e :: r)
        | none => none
      | none => none
    | none => none
def castE(cs cs' : List CK)(xs : List (Elem cs')) : Option (List (Elem cs)) :=
  if h : cs' = cs then some (h ▸ xs) else none
def elems(ob : Ob)(cs : List CK) : AV → Option (List (Elem cs))
  | .nsl _ => some []
  | .rsl cs' xs => castE cs cs' xs
  | .ows o => match ob o with
    | some (.row cs' xs) => castE cs cs' xs
    | _ => none
  | .osl o lo n => match ob o with
    | some (.row cs' xs) => castE cs cs' ((xs.drop lo).take n)
    | _ => none
  | .bsl o j cs' n => match ob o with
    | some (.box us) => match elemsX cs' n (us.drop j) with
      | some xs => castE cs cs' xs
      | none => none
    | _ => none
  | _ => none
def lenAV(ob : Ob) : AV → Option Nat
  | .nsl _ => some 0
  | .rsl _ xs => some xs.length
  | .ows o => match ob o with
    | some (.row _ xs) => some xs.length
    | _ => none
  | .osl _ _ n => some n
  | .bsl _ _ _ n => some n
  | .val (.string s) => some s.size
  | _ => none
def kindsOf(E : Env)(t : Nat) : Option (TI × List CK) :=
  match lookN E.tt t with
  | some ⟨.slice e, _, _, _, _⟩ => match lookN E.tt e with
    | some ti => some (ti, ti.cks)
    | none => none
  | _ => none
abbrev CV := Bool × AV
def sure(v : Value) : Option CV := some (true, .val v)
def intOp(op : BinOp)(k : IntKind)(a b : Int) : Option CV :=
  match op with
  | .add => sure (.int k (k.wrap (a + b)))
  | .sub => sure (.int k (k.wrap (a - b)))
  | .mul => sure (.int k (k.wrap (a * b)))
  | .quo => some (!decide (b = 0), .val (.int k (k.wrap (a.tdiv b))))
  | .rem => some (!decide (b = 0), .val (.int k (a.tmod b)))
  | .and => sure (.int k (k.wrap (BitVec.ofInt k.bits a &&& BitVec.ofInt k.bits b).toNat))
  | .or => sure (.int k (k.wrap (BitVec.ofInt k.bits a ||| BitVec.ofInt k.bits b).toNat))
  | .xor => sure (.int k (k.wrap (BitVec.ofInt k.bits a ^^^ BitVec.ofInt k.bits b).toNat))
  | .andNot => sure (.int k (k.wrap (BitVec.ofInt k.bits a &&& ~~~BitVec.ofInt k.bits b).toNat))
  | .eql => sure (.bool (a == b))
  | .neq => sure (.bool (a != b))
  | .lss => sure (.bool (decide (a < b)))
  | .leq => sure (.bool (decide (a ≤ b)))
  | .gtr => sure (.bool (decide (a > b)))
  | .geq => sure (.bool (decide (a ≥ b)))
  | _ => none
def shiftOp(op : BinOp)(k : IntKind)(a b : Int) : Option CV :=
  match op with
  | .shl => some (!decide (b < 0), .val (.int k (k.wrap (a * 2 ^ (min b.toNat k.bits)))))
  | .shr => some (!decide (b < 0), .val (.int k (a.fdiv (2 ^ (min b.toNat k.bits)))))
  | _ => none
def strEq(x y : ByteArray) : Bool := x.toList == y.toList
def strLt(x y : ByteArray) : Bool := Op.bytesLess x.toList y.toList
def strOp(op : BinOp)(x y : ByteArray) : Option CV :=
  match op with
  | .add => some (decide (x.size + y.size ≤ 9223372036854775807), .val (.string (x ++ y)))
  | .eql => sure (.bool (strEq x y))
  | .neq => sure (.bool (!strEq x y))
  | .lss => sure (.bool (strLt x y))
  | .leq => sure (.bool (strLt x y || strEq x y))
  | .gtr => sure (.bool (!(strLt x y || strEq x y)))
  | .geq => sure (.bool (!strLt x y))
  | _ => none
def ckEq : (c : CK) → c.T → c.T → Bool
  | .int _, a, b => (a : Int) == b
  | .str, a, b => strEq a b
  | .bool, a, b => (a : Bool) == b
def elemEq : (cs : List CK) → Elem cs → Elem cs → Bool
  | [], _, _ => true
  | [c], a, b => ckEq c a.1 b.1
  | c :: c' :: cs, a, b => ckEq c a.1 b.1 && elemEq (c' :: cs) a.2 b.2
def structEq(ti : Option TI)(us vs : List AV) : Option Bool :=
  match ti with
  | some t => match elemOf t.cks us, elemOf t.cks vs with
    | some a, some b => some (elemEq t.cks a b)
    | _, _ => none
  | none => none
def eqOp(op : BinOp)(r : Option Bool) : Option CV :=
  match op, r with
  | .eql, some b => sure (.bool b)
  | .neq, some b => sure (.bool (!b))
  | _, _ => none
def isConst : Operand → Bool
  | .const _ => true
  | _ => false
def ifaceT(tt : List (Nat × TI))(t : Nat) : Bool :=
  match lookN tt t with
  | some ⟨.iface, _, _, _, _⟩ => true
  | _ => false
def binOpA(E : Env)(op : BinOp)(t : Nat)(cy : Bool)(x y : AV) : Option CV :=
  match x, y with
  | .val (.int k a), .val (.int k' b) => match op with
    | .shl => shiftOp .shl k a b
    | .shr => shiftOp .shr k a b
    | op => if k = k' then intOp op k a b else none
  | .val (.string a), .val (.string b) => strOp op a b
  | .val (.bool a), .val (.bool b) => match lookN E.tt t with
    | some ⟨.bool, _, _, _, _⟩ => eqOp op (some (a == b))
    | _ => none
  | .agg us, .agg vs => if E.eqs.contains t then eqOp op (structEq (lookN E.tt t) us vs) else none
  | .ifc, .val .nilIface => if ifaceT E.tt t then eqOp op (some false) else none
  | .val .nilIface, .val .nilIface => if ifaceT E.tt t && cy then eqOp op (some true) else none
  | _, _ => none
def unOpA(op : UnOp)(x : AV) : Option CV :=
  match op, x with
  | .neg, .val (.int k a) => sure (.int k (k.wrap (0 - a)))
  | .not, .val (.bool b) => sure (.bool (!b))
  | _, _ => none
def strOf(xs : List (Elem [.int .u8])) : ByteArray := ⟨(xs.map fun e => UInt8.ofNat (e.1 : Int).toNat).toArray⟩
def bytesT(tt : List (Nat × TI))(t : Nat) : Bool :=
  match lookN tt t with
  | some ⟨.slice e, _, _, _, _⟩ => match lookN tt e with
    | some ⟨.int .u8, _, _, _, _⟩ => true
    | _ => false
  | _ => false
def convA(tt : List (Nat × TI))(ob : Ob)(src dst : Nat)(x : AV) : Option CV :=
  match lookN tt dst with
  | some ⟨.int k, _, _, _, _⟩ => match x, lookN tt src with
    | .val (.int _ n), some _ => sure (.int k (k.wrap n))
    | _, _ => none
  | some ⟨.str, _, _, _, _⟩ => match x with
    | .val (.string s) => match lookN tt src with
      | some _ => sure (.string s)
      | none => none
    | a => if bytesT tt src then match elems ob [.int .u8] a with
        | some xs => sure (.string (strOf xs))
        | none => none
      else none
  | _ => none
def byteAt(s : ByteArray)(i : Int) : Int := if h : i.toNat < s.size then ((s[i.toNat]'h).toNat : Int) else 0
end Go.Proofs.YtkjnijddbiconaaGreatDoor.Ev

namespace Go.Proofs.YtkjnijddbiconaaGreatDoor.Ev
open Go
def intOfAV:AV→Option Int
  | .val (.int _ n)=>some n
  | _=>none
def boundA(E:Env)(tm:Tm)(d:Int):Option Operand→Option Int
  | none=>some d
  | some x=>match opd E tm 0 x with
    | some a=>intOfAV a
    | none=>none
def kindO(ob:Ob)(o:Nat):List CK :=
  match ob o with
  | some (.row cs _)=>cs
  | _ => []
def cutA(ob:Ob)(sz:Nat)(x:AV)(l:Int)(h:Int)(n:Nat)(m:Int):Option CV :=
  let c:=decide (0≤l∧l≤h∧h≤m∧m≤(n:Int))
  match x with
  | .nsl cs=>some (c,.nsl cs)
  | .rsl cs xs=>if cs.length=sz then some (c,.rsl cs ((xs.take h.toNat).drop l.toNat)) else none
  | .ows o=>if (kindO ob o).length=sz∧0 < sz then some (c,.osl o l.toNat (h - l).toNat) else none
  | .osl o lo _=>if (kindO ob o).length=sz∧0 < sz then some (c,.osl o (lo+l.toNat) (h - l).toNat) else none
  | _=>none
def cutS(s:ByteArray)(l h:Int):Option CV :=
  some (decide (0≤l∧l≤h∧h≤(s.size:Int)),.val (.string (s.extract l.toNat h.toNat)))
def sliceA(E:Env)(tm:Tm)(ob:Ob)(t:Nat)(x:AV)(lo hi mx:Option Operand):Option CV :=
  match lookN E.tt t with
  | some ⟨.array n e,_,_,_,_⟩=>match lo,hi,mx,lookN E.tt e with
    | none,none,none,some ti=>if ti.cks.length=ti.size∧0 < ti.size then match x with
      | .ptr o j=>some (true,.bsl o j ti.cks n)
      | .rpt us=>match elemsX ti.cks n us with
        | some xs=>some (true,.rsl ti.cks xs)
        | none=>none
      | .rel us=>match elemsX ti.cks n (us.map .val) with
        | some xs=>some (true,.rsl ti.cks xs)
        | none=>none
      | _=>none
      else none
    | _,_,_,_=>none
  | some ⟨.str,_,_,_,_⟩=>match x,mx with
    | .val (.string s),none=>match boundA E tm 0 lo,boundA E tm s.size hi with
      | some l,some h=>cutS s l h
      | _,_=>none
    | _,_=>none
  | some ⟨.slice e,_,_,_,_⟩=>match lookN E.tt e,lenAV ob x with
    | some ti,some n=>match mx.isSome&&hi.isNone with
      | true=>none
      | false=>match boundA E tm 0 lo,boundA E tm n hi,boundA E tm n mx with
        | some l,some h,some m=>cutA ob ti.size x l h n m
        | _,_,_=>none
    | _,_=>none
  | _=>none
def condV(c:Bool)(a:Option AV):Option CV :=
  match a with
  | some v=>some (c,v)
  | none=>none
def indexAddrA(E:Env)(ob:Ob)(t:Nat)(x:AV)(i:Int):Option CV :=
  match lookN E.tt t with
  | some ⟨.array n e,_,_,_,_⟩=>match lookN E.tt e with
    | some ti=>condV (decide (0≤i∧i < (n:Int))) (addOff (i.toNat * ti.size) x)
    | none=>none
  | some ⟨.slice e,_,_,_,_⟩=>match lookN E.tt e,lenAV ob x with
    | some ti,some n =>
      let c:=decide (0≤i∧i < (n:Int))
      match x with
      | .rsl cs xs=>if cs.length=ti.size∧0 < ti.size then some (c,.rel (vals cs (xs.getD i.toNat (edflt cs)))) else none
      | .ows o=>if (kindO ob o).length=ti.size∧0 < ti.size then some (c,.oel o i.toNat 0) else none
      | .osl o lo _=>if (kindO ob o).length=ti.size∧0 < ti.size then some (c,.oel o (lo+i.toNat) 0) else none
      | .bsl o j cs _=>if cs.length=ti.size then some (c,.ptr o (j+i.toNat * ti.size)) else none
      | _=>none
    | _,_=>none
  | _=>none
def partA(ti:TI)(off:Nat)(us:List AV):Option AV :=
  match takeX ti.size (us.drop off) with
  | some r=>ofCells ti r
  | none=>none
def indexA(E:Env)(t:Nat)(x:AV)(i:Int):Option CV :=
  match x with
  | .val (.string s)=>match lookN E.tt t with
    | some ⟨.str,_,_,_,_⟩=>some (decide (0≤i∧i < (s.size:Int)),.val (.int .u8 (byteAt s i)))
    | _=>none
  | .agg us=>match lookN E.tt t with
    | some ⟨.array n e,_,_,_,_⟩=>match lookN E.tt e with
      | some ti=>condV (decide (0≤i∧i < (n:Int))) (partA ti (i.toNat * ti.size) us)
      | none=>none
    | _=>none
  | _=>none
def fieldOf(E:Env)(t f:Nat):Option (Nat × Nat × Nat) :=
  match lookN E.tt t with
  | some ⟨.struct fs,_,_,_,_⟩=>fs[f]?
  | _=>none
def visitL(g:List Nat→AV→List Nat):List Nat→List AV→List Nat
  | acc,[]=>acc
  | acc,a :: az=>visitL g (g acc a) az
def visit:Nat→Ob→List Nat→AV→List Nat
  | 0,_,acc,_=>acc
  | d+1,ob,acc,a =>
    match a with
    | .ows o | .osl o _ _ | .oel o _ _=>if acc.contains o then acc else acc ++ [o]
    | .ptr o _ | .bsl o _ _ _=>if acc.contains o then acc else match ob o with
      | some (.box us)=>visitL (visit d ob) (acc ++ [o]) us
      | _=>acc ++ [o]
    | .agg us | .fn _ us | .tup us=>visitL (visit d ob) acc us
    | _=>acc
def depth:Nat:=6
def renL(g:AV→AV):List AV→List AV
  | [] => []
  | a :: az=>g a :: renL g az
def ren(ρ:Nat→Option Nat):Nat→AV→AV
  | 0,_ => .junk
  | d+1,a =>
    match a with
    | .ows o=>match ρ o with | some q => .ows q | none => .junk
    | .osl o lo n=>match ρ o with | some q => .osl q lo n | none => .junk
    | .oel o i j=>match ρ o with | some q => .oel q i j | none => .junk
    | .ptr o j=>match ρ o with | some q => .ptr q j | none => .junk
    | .bsl o j cs n=>match ρ o with | some q => .bsl q j cs n | none => .junk
    | .agg us => .agg (renL (ren ρ d) us)
    | .fn f us => .fn f (renL (ren ρ d) us)
    | .tup us => .tup (renL (ren ρ d) us)
    | .rpt us => .rpt (renL (ren ρ d) us)
    | a=>a
def renO(ρ:Nat→Option Nat):AO→AO
  | .row cs xs => .row cs xs
  | .box us => .box (renL (ren ρ depth) us)
def ixFrom:Nat→List Nat→Nat→Option Nat
  | _,[],_=>none
  | q,a :: r,o=>if Nat.beq a o then some q else ixFrom (q+1) r o
def nodupB:List Nat→Bool
  | []=>true
  | a :: az => !az.contains a&&nodupB az
def getOb(ob:Ob):List Nat→Option (List AO)
  | []=>some []
  | o :: r=>match ob o with
    | some x=>match getOb ob r with
      | some xs=>some (x :: xs)
      | none=>none
    | none=>none
def mapX{α β:Type}(g:α→Option β):List α→Option (List β)
  | []=>some []
  | a :: az=>match g a with
    | some b=>match mapX g az with
      | some bs=>some (b :: bs)
      | none=>none
    | none=>none
def roOf:Nat→Ob→AV→Option AV
  | 0,_,_=>none
  | d+1,ob,a =>
    match a with
    | .ows o=>match ob o with
      | some (.row cs xs)=>some (.rsl cs xs)
      | _=>none
    | .osl o lo n=>match ob o with
      | some (.row cs xs)=>some (.rsl cs ((xs.drop lo).take n))
      | _=>none
    | .nsl cs=>some (.rsl cs [])
    | .bsl o j cs n=>match ob o with
      | some (.box us)=>match elemsX cs n (us.drop j) with
        | some xs=>some (.rsl cs xs)
        | none=>none
      | _=>none
    | .oel o i j=>match ob o with
      | some (.row cs xs)=>some (.rel ((vals cs (xs.getD i (edflt cs))).drop j))
      | _=>none
    | .ptr o j=>match ob o with
      | some (.box us)=>match mapX (roOf d ob) (us.drop j) with
        | some vs=>some (.rpt vs)
        | none=>none
      | _=>none
    | .agg us=>match mapX (roOf d ob) us with
      | some vs=>some (.agg vs)
      | none=>none
    | .fn f us=>match mapX (roOf d ob) us with
      | some vs=>some (.fn f vs)
      | none=>none
    | .tup _=>none
    | .rpt us=>match mapX (roOf d ob) us with
      | some vs=>some (.rpt vs)
      | none=>none
    | a=>some a
def noRefL(g:AV→Bool):List AV→Bool
  | []=>true
  | a :: az=>g a&&noRefL g az
def noMem:Nat→AV→Bool
  | 0,_=>false
  | d+1,a =>
    match a with
    | .rsl .. | .rel _ | .rpt _=>false
    | .agg us | .tup us | .fn _ us=>noRefL (noMem d) us
    | _=>true
def noMemO:AO→Bool
  | .row .. => true
  | .box us=>noRefL (noMem depth) us
structure Pre where
  f:Nat
  args:List AV
  obs:List AO
  acc:List Nat
def outAt:List (Option Nat)→List Nat→Nat→Option Nat
  | some q :: os,a :: az,p=>if Nat.beq q p then some a else outAt os az p
  | none :: os,_ :: az,p=>outAt os az p
  | _,_,_=>none
def dead:List (Option Nat)→List Nat→List (Nat × Option AO)
  | none :: os,a :: az=>(a,none) :: dead os az
  | some _ :: os,_ :: az=>dead os az
  | _,_ => []
def backs(ρ:Nat→Option Nat)(nm:Nat→Nat):Nat→List AO→List (Nat × Option AO)
  | _,[] => []
  | q,x :: xs=>(nm q,some (renO ρ x)) :: backs ρ nm (q+1) xs
def preOf(E:Env)(f:Nat)(args:List AV)(ob:Ob):Option Pre :=
  if E.io.contains f then
    let acc:=visitL (visit depth ob) [] args
    match nodupB acc,getOb ob acc with
    | true,some os=>some ⟨f,renL (ren (ixFrom 0 acc) depth) args,os.map (renO (ixFrom 0 acc)),acc⟩
    | _,_=>none
  else match mapX (roOf depth ob) args with
    | some az=>some ⟨f,az,[],[]⟩
    | none=>none
def postOf(io:Bool)(nb:Nat)(p:Pre)(r:Res):Option (AV × List (Nat × Option AO)) :=
  match (io || (noMem depth r.av&&r.obs.all noMemO))&&Nat.blt r.obs.length 1000&&Nat.beq r.outs.length p.acc.length&&nodupB (r.outs.filterMap id) with
  | true =>
    let nm:=fun q=>(outAt r.outs p.acc q).getD (nb+q)
    let ρ:=fun q=>if Nat.blt q r.obs.length then some (nm q) else none
    some (ren ρ depth r.av,dead r.outs p.acc++backs ρ nm 0 r.obs)
  | false=>none
def opdL(E:Env)(tm:Tm):List Nat→List Operand→Option (List AV)
  | _,[]=>some []
  | [],x :: xs=>match opd E tm 0 x with
    | some a=>match opdL E tm [] xs with
      | some az=>some (a :: az)
      | none=>none
    | none=>none
  | t :: ts,x :: xs=>match opd E tm t x with
    | some a=>match opdL E tm ts xs with
      | some az=>some (a :: az)
      | none=>none
    | none=>none
def calleeOf(E:Env)(o:Oper)(tm:Tm):Option (Nat × List AV) :=
  match o.op with
  | .call ⟨.value fv,args,ts⟩=>match opd E tm 0 fv,opdL E tm ts.toList args.toList with
    | some (.fn f caps),some az=>some (f,az++caps)
    | _,_=>none
  | _=>none
def isCall(o:Oper):Bool :=
  match o.op with
  | .call ⟨.value _,_,_⟩=>true
  | _=>false
structure Out where
  c:Bool
  v:AV
  u:List (Nat × Option AO)
def appendA(E:Env)(nb t:Nat)(ob:Ob)(s x:AV):Option Out :=
  match kindsOf E t with
  | some (ti,cs) =>
    if cs.length=ti.size∧0 < ti.size∧0 < ti.bytes then
    match (match s with
      | .nsl _=>some ([],[])
      | .ows o=>match elems ob cs s with
        | some xs=>some (xs,[(o,none)])
        | none=>none
      | .osl o 0 _=>match elems ob cs s with
        | some xs=>some (xs,[(o,none)])
        | none=>none
      | _=>none:Option (List (Elem cs) × List (Nat × Option AO))) with
    | some (xs,fr)=>match elems ob cs x with
      | some ys=>some ⟨decide ((xs.length+ys.length) * ti.bytes≤140737488355328),.ows nb,fr ++ [(nb,some (.row cs (xs++ys)))]⟩
      | none=>none
    | none=>none
    else none
  | none=>none
def zapR(cs:List CK)(xs:List (Elem cs))(lo n:Nat):List (Elem cs):=xs.take lo++List.replicate n (edflt cs)++xs.drop (lo+n)
def builtinA(E:Env)(nb:Nat)(ob:Ob)(b:Builtin)(ts:List Nat)(args:List AV):Option Out :=
  match b,args with
  | .len,[a]=>match ts with
    | [t]=>match lookN E.tt t with
      | some ⟨.array n _,_,_,_,_⟩=>some ⟨true,.val (.int .i64 n),[]⟩
      | some ⟨.slice _,_,_,_,_⟩=>match a with
        | .val _=>none
        | a=>match lenAV ob a with
          | some n=>some ⟨true,.val (.int .i64 n),[]⟩
          | none=>none
      | some ⟨.str,_,_,_,_⟩=>match a with
        | .val (.string s)=>some ⟨true,.val (.int .i64 s.size),[]⟩
        | _=>none
      | _=>none
    | _=>none
  | .append,[s,x]=>match ts with
    | [t,t']=>if t=t' then appendA E nb t ob s x else none
    | _=>none
  | .min,[.val (.int k a),.val (.int k' b)]=>if k=k' then some ⟨true,.val (.int k (if b < a then b else a)),[]⟩ else none
  | .max,[.val (.int k a),.val (.int k' b)]=>if k=k' then some ⟨true,.val (.int k (if b > a then b else a)),[]⟩ else none
  | .clear,[.osl o lo n]=>match ts with
    | [t]=>match kindsOf E t,ob o with
      | some (ti,cs),some (.row cs' xs)=>if cs'=cs∧cs.length=ti.size∧0 < ti.size then some ⟨true,.val (.tuple #[]),[(o,some (.row cs' (zapR cs' xs lo n)))]⟩ else none
      | _,_=>none
    | _=>none
  | _,_=>none
def partsAV(E:Env)(tm:Tm)(pl:Nat→Option (Nat × Nat)):List (Nat × Operand)→List AV→Option (List AV)
  | [],us=>some us
  | (i,x) :: r,us=>match pl i with
    | some (off,t)=>match opd E tm t x with
      | some a=>match cellsOf a,lookN E.tt t with
        | some ns,some ti=>if ns.length=ti.size then
            match spliceX off ns us with
            | some us'=>partsAV E tm pl r us'
            | none=>none
          else none
        | _,_=>none
      | none=>none
    | none=>none
def valA(a:Option AV):Option Out :=
  match a with
  | some v=>some ⟨true,v,[]⟩
  | none=>none
def cvA(a:Option CV):Option Out :=
  match a with
  | some (c,v)=>some ⟨c,v,[]⟩
  | none=>none
def zeroRow(ti:TI)(n:Nat):List AV:=(List.replicate n (ti.z.map zav)).flatten
def comp(E:Env)(nb:Nat)(o:Oper)(tm:Tm)(ob:Ob):Option Out :=
  match o.op with
  | .move x | .assign x=>valA (opd E tm o.type x)
  | .pick c a b=>match opd E tm 0 c with
    | some (.val (.bool true))=>valA (opd E tm o.type a)
    | some (.val (.bool false))=>valA (opd E tm o.type b)
    | _=>none
  | .alloc t=>match lookN E.tt t with
    | some ti=>some ⟨true,.ptr nb 0,[(nb,some (.box (ti.z.map zav)))]⟩
    | none=>none
  | .box t x=>match lookN E.tt t,opd E tm t x with
    | some ti,some a=>match cellsOf a with
      | some us=>if us.length=ti.size then some ⟨true,.ptr nb 0,[(nb,some (.box us))]⟩ else none
      | none=>none
    | _,_=>none
  | .build t ps=>match lookN E.tt t with
    | some ti=>match ti.d with
      | .struct fs=>if fs.all (fun f=>(lookN E.tt f.2.2).isSome) then
          match partsAV E tm (fun i=>match fs[i]? with | some (off,_,ft)=>some (off,ft) | none=>none) ps.toList (ti.z.map zav) with
          | some us=>some ⟨true,.agg us,[]⟩
          | none=>none
        else none
      | .array _ e=>match lookN E.tt e with
        | some te=>match partsAV E tm (fun i=>some (i * te.size,e)) ps.toList (ti.z.map zav) with
          | some us=>some ⟨true,.agg us,[]⟩
          | none=>none
        | none=>none
      | _=>none
    | none=>none
  | .buildSlice t n ps=>match kindsOf E t,lookN E.tt t with
    | some (te,cs),some ⟨.slice e,_,_,_,_⟩=>if cs.length=te.size∧n * te.size≤16777216 then
        match partsAV E tm (fun i=>some (i * te.size,e)) ps.toList (zeroRow te n) with
        | some us=>match elemsX cs n us with
          | some xs=>some ⟨true,.ows nb,[(nb,some (.row cs xs))]⟩
          | none=>none
        | none=>none
      else none
    | _,_=>none
  | .load t a=>match lookN E.tt t,opd E tm 0 a with
    | some ti,some av=>match readAt ob ti.size av with
      | some us=>valA (ofCells ti us)
      | none=>none
    | _,_=>none
  | .store t a x=>match lookN E.tt t,opd E tm 0 a,opd E tm t x with
    | some ti,some av,some xv=>match cellsOf xv with
      | some ns=>if ns.length=ti.size then match writeAt ob ns av with
          | some u=>some ⟨true,.val undef,u⟩
          | none=>none
        else none
      | none=>none
    | _,_,_=>none
  | .nilCheck x=>match opd E tm 0 x with
    | some (.ptr o j)=>some ⟨true,.ptr o j,[]⟩
    | some (.oel o i j)=>some ⟨true,.oel o i j,[]⟩
    | some (.rel us)=>some ⟨true,.rel us,[]⟩
    | some (.rpt us)=>some ⟨true,.rpt us,[]⟩
    | some (.fn f us)=>some ⟨true,.fn f us,[]⟩
    | _=>none
  | .binOp op t x y _=>match opd E tm t x,opd E tm t y with
    | some a,some b=>cvA (binOpA E op t (isConst y) a b)
    | _,_=>none
  | .unOp op _ x=>match opd E tm 0 x with
    | some a=>cvA (unOpA op a)
    | none=>none
  | .convert src dst x=>match opd E tm 0 x with
    | some a=>cvA (convA E.tt ob src dst a)
    | none=>none
  | .makeInterface t _=>match lookN E.tt t with
    | some ti=>match ti.d with
      | .iface=>none
      | _=>some ⟨true,.ifc,[]⟩
    | none=>none
  | .makeFunc (.func f) first caps=>if first.size=0 then match opdL E tm [] caps.toList with
      | some us=>some ⟨true,.fn f us,[]⟩
      | none=>none
    else none
  | .makeSlice t l c=>match kindsOf E t,opd E tm 0 l,opd E tm 0 c with
    | some (te,cs),some (.val (.int .i64 n)),some (.val (.int .i64 m))=>if cs.length=te.size∧0 < te.bytes then
        some ⟨decide (0≤n∧n≤m∧(te.bytes:Int) * m≤281474976710656),.ows nb,[(nb,some (.row cs (List.replicate n.toNat (edflt cs))))]⟩
      else none
    | _,_,_=>none
  | .slice t x lo hi mx=>match opd E tm t x with
    | some a=>cvA (sliceA E tm ob t a lo hi mx)
    | none=>none
  | .fieldAddr t x f=>match opd E tm 0 x,fieldOf E t f with
    | some a,some (off,sz,_)=>if 0 < sz then valA (addOff off a) else none
    | _,_=>none
  | .field t x f=>match opd E tm t x,fieldOf E t f with
    | some (.agg us),some (off,_,ft)=>match lookN E.tt ft with
      | some ti=>valA (partA ti off us)
      | none=>none
    | _,_=>none
  | .indexAddr t x i=>match opd E tm t x,opd E tm 0 i with
    | some a,some (.val (.int _ n))=>cvA (indexAddrA E ob t a n)
    | _,_=>none
  | .index t x i=>match opd E tm t x,opd E tm 0 i with
    | some a,some (.val (.int _ n))=>cvA (indexA E t a n)
    | _,_=>none
  | .extract x i=>match opd E tm 0 x with
    | some (.tup us)=>valA us[i]?
    | _=>none
  | .call ⟨.builtin b,args,ts⟩=>match opdL E tm ts.toList args.toList with
    | some az=>builtinA E nb ob b ts.toList az
    | none=>none
  | _=>none
def refName:AV→List Nat
  | .ows o | .osl o _ _ | .oel o _ _ | .ptr o _ | .bsl o _ _ _ => [o]
  | _ => []
def refOpd(E:Env)(tm:Tm)(x:Operand):List Nat :=
  match opd E tm 0 x with
  | some a=>refName a
  | none => []
def deps(E:Env)(o:Oper)(tm:Tm)(ob:Ob):List Nat :=
  match o.op with
  | .load _ a=>refOpd E tm a
  | .store _ a _=>refOpd E tm a
  | .convert _ _ x=>refOpd E tm x
  | .slice _ x _ _ _=>refOpd E tm x
  | .indexAddr _ x _=>refOpd E tm x
  | .call ⟨.value fv,args,ts⟩=>match opd E tm 0 fv,opdL E tm ts.toList args.toList with
    | some (.fn _ caps),some az=>visitL (visit depth ob) [] (az++caps)
    | _,_ => []
  | .call ⟨.builtin _,args,ts⟩=>match opdL E tm ts.toList args.toList with
    | some az=>az.flatMap refName
    | none => []
  | _ => []
def restr(D:List Nat)(ob:Ob):Ob:=fun o=>if D.contains o then ob o else none
structure St where
  tm:List AV
  ob:List (Nat × AO)
  nx:Nat
  ps:List (Option Nat)
def getT:List AV→Nat→AV
  | [],_ => .junk
  | a :: _,0=>a
  | _ :: az,n+1=>getT az n
def setT:List AV→Nat→AV→List AV
  | [],_,_ => []
  | _ :: az,0,x=>x :: az
  | a :: az,n+1,x=>a :: setT az n x
def putT(l:List AV)(d:Option Tmp)(x:AV):List AV :=
  match d with
  | some s=>setT l s x
  | none=>l
def putO:List (Nat × AO)→Nat→AO→List (Nat × AO)
  | [],o,x => [(o,x)]
  | (p,y) :: r,o,x=>if Nat.beq p o then (o,x) :: r else (p,y) :: putO r o x
def delO:List (Nat × AO)→Nat→List (Nat × AO)
  | [],_ => []
  | (p,y) :: r,o=>if Nat.beq p o then delO r o else (p,y) :: delO r o
def updO:List (Nat × AO)→List (Nat × Option AO)→List (Nat × AO)
  | l,[]=>l
  | l,(o,some x) :: r=>updO (putO l o x) r
  | l,(o,none) :: r=>updO (delO l o) r
structure POp where
  i:Nat
  o:Oper
  anc:Nat
structure Foot where
  i:Nat
  d:List Nat
  w:List Nat
def bindsAny(e:Edge):Bool:=Region.binds .any e
def ancOf(ms:List Nat):List Edge→Nat
  | []=>0
  | e :: es=>if bindsAny e then (2 ^ e.on) ||| (ms.getD e.on 0) ||| ancOf ms es else ancOf ms es
def prepFrom:Nat→List Nat→List Oper→List POp
  | _,_,[] => []
  | i,ms,o :: os=>let m:=ancOf ms o.after.toList; ⟨i,o,m⟩ :: prepFrom (i+1) (ms ++ [m]) os
def apartL:List Nat→List Nat→Bool
  | [],_=>true
  | a :: az,bs => !bs.contains a&&apartL az bs
def okLog(anc:Nat)(d w:List Nat):List Foot→Bool
  | []=>true
  | f :: fs=>(anc.testBit f.i || (apartL f.w d&&apartL f.w w&&apartL w f.d))&&okLog anc d w fs
def dstOf(ops:List Oper)(g:Nat):Option Tmp :=
  match ops[g]? with
  | some o=>o.dst
  | none=>none
def br(b:Bool)(t e:Prop):Prop :=
  match b with
  | true=>t
  | false=>e
abbrev Gk:=Nat→List AV→List AO→(Res→Prop)→Prop
def caseFrom(i:Int):Nat→Nat→(Nat→Prop)→Prop
  | _,0,_=>False
  | a,n+1,k=>br (i==(a:Int)) (k a) (caseFrom i (a+1) n k)
def arrayIx(E:Env)(o:Oper):Option (Tmp × Nat) :=
  match o.op with
  | .indexAddr t _ (.tmp s)=>match lookN E.tt t with
    | some ⟨.array n _,_,_,_,_⟩=>some (s,n)
    | _=>none
  | .index t _ (.tmp s)=>match lookN E.tt t with
    | some ⟨.array n _,_,_,_,_⟩=>some (s,n)
    | _=>none
  | _=>none
abbrev Kl:=List Foot→St→Prop
def afterP(draw:Bool)(p:POp)(D:List Nat)(log:List Foot)(st:St)(v:AV)(u:List (Nat × Option AO))(k:Kl):Prop :=
  match draw with
  | true=>match okLog p.anc D (u.map (·.1)) log with
    | true=>k (⟨p.i,D,u.map (·.1)⟩ :: log) ⟨putT st.tm p.o.dst v,updO st.ob u,st.nx,st.ps⟩
    | false=>False
  | false=>k log ⟨putT st.tm p.o.dst v,updO st.ob u,st.nx,st.ps⟩
def stepP(E:Env)(G:Gk)(nx:Nat)(draw:Bool)(p:POp)(log:List Foot)(st:St)(k:Kl):Prop :=
  let D:=deps E p.o (getT st.tm) (lookN st.ob)
  match isCall p.o with
  | true =>
    match calleeOf E p.o (getT st.tm) with
    | some (f,az)=>match preOf E f az (restr D (lookN st.ob)) with
      | some q=>G f q.args q.obs fun r=>match postOf (E.io.contains f) (nx+p.i * 1000) q r with
        | some (v,u)=>afterP draw p D log st v u k
        | none=>False
      | none=>False
    | none=>False
  | false=>match comp E (nx+p.i * 1000) p.o (getT st.tm) (restr D (lookN st.ob)) with
    | some ⟨c,v,u⟩=>br c (afterP draw p D log st v u k) False
    | none=>False
def runP(E:Env)(G:Gk)(nx:Nat)(draw:Bool)(p:POp)(log:List Foot)(st:St)(k:Kl):Prop :=
  match arrayIx E p.o with
  | some (s,n)=>match getT st.tm s with
    | .val (.int kd i)=>caseFrom i 0 n fun a=>stepP E G nx draw p log ⟨setT st.tm s (.val (.int kd (a:Int))),st.ob,st.nx,st.ps⟩ k
    | _=>False
  | none=>stepP E G nx draw p log st k
def skipP(p:POp)(log:List Foot)(st:St)(k:Kl):Prop:=k log ⟨putT st.tm p.o.dst (.val undef),st.ob,st.nx,st.ps⟩
def opsP(E:Env)(G:Gk)(nx:Nat)(draw:Bool)(all:List Oper):List POp→List Foot→St→(St→Prop)→Prop
  | [],_,st,k=>k st
  | p :: ps,log,st,k =>
    match p.o.guard with
    | none=>runP E G nx draw p log st fun log st=>opsP E G nx draw all ps log st k
    | some (g,want)=>match dstOf all g with
      | some s=>match getT st.tm s with
        | .val (.bool b) =>
          br b
            (match want with
              | true=>runP E G nx draw p log ⟨setT st.tm s (.val (.bool true)),st.ob,st.nx,st.ps⟩ fun log st=>opsP E G nx draw all ps log st k
              | false=>skipP p log ⟨setT st.tm s (.val (.bool true)),st.ob,st.nx,st.ps⟩ fun log st=>opsP E G nx draw all ps log st k)
            (match want with
              | true=>skipP p log ⟨setT st.tm s (.val (.bool false)),st.ob,st.nx,st.ps⟩ fun log st=>opsP E G nx draw all ps log st k
              | false=>runP E G nx draw p log ⟨setT st.tm s (.val (.bool false)),st.ob,st.nx,st.ps⟩ fun log st=>opsP E G nx draw all ps log st k)
        | .val (.tuple _)=>skipP p log st fun log st=>opsP E G nx draw all ps log st k
        | _=>False
      | none=>False
def slotsOf(all:List Oper)(o:Oper):List Tmp :=
  (o.op.operands.toList.filterMap fun | .tmp t=>some t | _=>none) ++
  (match o.guard with
    | some (g,_)=>(dstOf all g).toList
    | none => [])
def pairOk(all:List Oper)(p q:POp):Bool :=
  q.anc.testBit p.i ||
  ((match p.o.dst with
    | some d => !(slotsOf all q.o).contains d && !(q.o.dst==some d)
    | none=>true) &&
  (match q.o.dst with
    | some d => !(slotsOf all p.o).contains d
    | none=>true))
def pairsOk(all:List Oper):List POp→Bool
  | []=>true
  | p :: ps=>ps.all (pairOk all p)&&pairsOk all ps
def backOk:Nat→List Oper→Bool
  | _,[]=>true
  | i,o :: os=>o.after.toList.all (fun e => !bindsAny e || Nat.blt e.on i)&&backOk (i+1) os
def firstReg:Code→Option Nat
  | .region id _ _=>some id
  | .seq a b=>match firstReg a with
    | some i=>some i
    | none=>firstReg b
  | .cond _ a b=>match firstReg a with
    | some i=>some i
    | none=>firstReg b
  | .block _ c=>firstReg c
  | .loop c=>firstReg c
  | _=>none
def isLoop(n:Nat)(c:Code):Bool :=
  match firstReg c with
  | some i=>Nat.beq i n
  | none=>false
def hasT:List Tmp→Tmp→Bool
  | [],_=>false
  | a :: az,t=>match Nat.beq a t with
    | true=>true
    | false=>hasT az t
def addT:List Tmp→List Tmp→List Tmp→List Tmp
  | r,_,[]=>r
  | r,w,t :: ts=>match hasT w t with
    | true=>addT r w ts
    | false=>match hasT r t with
      | true=>addT r w ts
      | false=>addT (t :: r) w ts
def opdT:Operand→List Tmp
  | .tmp t => [t]
  | _ => []
def firstOps(all:List Oper):List Oper→List Tmp × List Tmp→List Tmp × List Tmp
  | [],rw=>rw
  | o :: os,(r,w) =>
    let r':=addT r w (slotsOf all o)
    firstOps all os (r',match o.dst with
      | some d=>addT w r' [d]
      | none=>w)
def firsts:Code→List Tmp × List Tmp→List Tmp × List Tmp
  | .region _ ops _,rw=>firstOps ops.toList ops.toList rw
  | .seq a b,rw=>firsts b (firsts a rw)
  | .cond c a b,(r,w)=>firsts b (firsts a (addT r w (opdT c),w))
  | .block _ c,rw=>firsts c rw
  | .loop c,rw=>firsts c rw
  | .scope c,rw=>firsts c rw
  | _,rw=>rw
def readsOps(all:List Oper):List Oper→List Tmp
  | [] => []
  | o :: os=>slotsOf all o++readsOps all os
def readsX(n:Nat):Code→List Tmp
  | .region _ ops _=>readsOps ops.toList ops.toList
  | .seq a b=>readsX n a++readsX n b
  | .cond c a b=>opdT c++readsX n a++readsX n b
  | .block _ c=>readsX n c
  | .loop c=>match isLoop n c with
    | true => []
    | false=>readsX n c
  | .scope c=>readsX n c
  | _ => []
def sansT:List Tmp→List Tmp→List Tmp
  | [],_ => []
  | t :: ts,x=>match hasT x t with
    | true=>sansT ts x
    | false=>t :: sansT ts x
def readsC:Code→List Tmp
  | .region _ ops _=>readsOps ops.toList ops.toList
  | .seq a b=>readsC a++readsC b
  | .cond c a b=>opdT c++readsC a++readsC b
  | .block _ c=>readsC c
  | .loop c=>readsC c
  | .scope c=>readsC c
  | _ => []
def writesC:Code→List Tmp
  | .region _ ops _=>ops.toList.filterMap (·.dst)
  | .seq a b=>writesC a++writesC b
  | .cond _ a b=>writesC a++writesC b
  | .block _ c=>writesC c
  | .loop c=>writesC c
  | .scope c=>writesC c
  | _ => []
def liveX(n:Nat):Code→Option (List Tmp)
  | .seq a b=>match liveX n a with
    | some r=>some (r++readsC b)
    | none=>liveX n b
  | .cond _ a b=>match liveX n a with
    | some r=>some r
    | none=>liveX n b
  | .block _ c=>liveX n c
  | .loop c=>match isLoop n c with
    | true=>some []
    | false=>match liveX n c with
      | some r=>some (r++readsX n c)
      | none=>none
  | .scope c=>liveX n c
  | _=>none
def jofT(E:Env)(c:Code):List Tmp :=
  match firstReg c with
  | some n=>match liveX n E.code with
    | some r=>sansT (sansT ((firsts c ([],[])).2++sansT (writesC E.code) (readsC c)) E.keep) r
    | none => []
  | none => []
structure LK where
  nor:List Tmp
  exs:List (Nat × List Tmp)
  ret:List Tmp
def unT:List Tmp→List Tmp→List Tmp
  | r,[]=>r
  | r,t :: ts=>match hasT r t with
    | true=>unT r ts
    | false=>unT (t :: r) ts
def liveOps(all:List Oper):List Oper→List Tmp→List Tmp
  | [],l=>l
  | o :: os,l =>
    let r:=liveOps all os l
    unT (match o.dst with
      | some d=>sansT r [d]
      | none=>r) (slotsOf all o)
def liveIn:Code→LK→List Tmp
  | .skip,k=>k.nor
  | .region _ ops _,k=>liveOps ops.toList ops.toList k.nor
  | .seq a b,k=>liveIn a ⟨liveIn b k,k.exs,k.ret⟩
  | .cond c a b,k=>unT (unT (liveIn a k) (liveIn b k)) (opdT c)
  | .block id c,k=>liveIn c ⟨k.nor,(id,k.nor) :: k.exs,k.ret⟩
  | .loop c,k=>liveIn c ⟨[],k.exs,k.ret⟩
  | .exit id,k=>match lookN k.exs id with
    | some l=>l
    | none => []
  | .ret,k=>k.ret
  | .scope c,k=>liveIn c k
  | _,_ => []
def liveAt(n:Nat):Code→LK→Option (List Tmp)
  | .seq a b,k=>match liveAt n a ⟨liveIn b k,k.exs,k.ret⟩ with
    | some r=>some r
    | none=>liveAt n b k
  | .cond _ a b,k=>match liveAt n a k with
    | some r=>some r
    | none=>liveAt n b k
  | .block id c,k=>liveAt n c ⟨k.nor,(id,k.nor) :: k.exs,k.ret⟩
  | .loop c,k=>match isLoop n c with
    | true=>some (liveIn c ⟨[],k.exs,k.ret⟩)
    | false=>liveAt n c ⟨liveIn c ⟨[],k.exs,k.ret⟩,k.exs,k.ret⟩
  | .scope c,k=>liveAt n c k
  | _,_=>none
def upTo:Nat→List Tmp
  | 0 => []
  | n+1=>n :: upTo n
def jofL(E:Env)(c:Code):List Tmp :=
  match firstReg c with
  | some n=>match liveAt n E.code ⟨E.keep,[],E.keep⟩ with
    | some r=>sansT (unT (upTo 12) (writesC E.code)) r
    | none => []
  | none => []
def jof(E:Env)(c:Code):List Tmp :=
  match hasT E.io 1000000 with
  | true=>jofL E c
  | false=>jofT E c
def junkT:List AV→List Tmp→List AV
  | l,[]=>l
  | l,s :: ss=>junkT (setT l s .junk) ss
def denilL(g:Nat→AV→AV × List (Nat × AO) × Nat):Nat→List AV→List AV × List (Nat × AO) × Nat
  | n,[]=>([],[],n)
  | n,a :: az=>let r:=g n a; let s:=denilL g r.2.2 az; (r.1 :: s.1,r.2.1++s.2.1,s.2.2)
def denil:Nat→Nat→AV→AV × List (Nat × AO) × Nat
  | 0,n,a=>(a,[],n)
  | d+1,n,a =>
    match a with
    | .nsl cs=>(.ows n,[(n,.row cs [])],n+1)
    | .agg us=>let r:=denilL (denil d) n us; (.agg r.1,r.2.1,r.2.2)
    | .tup us=>let r:=denilL (denil d) n us; (.tup r.1,r.2.1,r.2.2)
    | a=>(a,[],n)
def denilO:Nat→List (Nat × AO)→List (Nat × AO) × List (Nat × AO) × Nat
  | n,[]=>([],[],n)
  | n,(o,.box us) :: r=>let x:=denilL (denil depth) n us; let s:=denilO x.2.2 r; ((o,.box x.1) :: s.1,x.2.1++s.2.1,s.2.2)
  | n,(o,.row cs xs) :: r=>let s:=denilO n r; ((o,.row cs xs) :: s.1,s.2.1,s.2.2)
def number:Nat→List AO→List (Nat × AO)
  | _,[] => []
  | q,x :: xs=>(q,x) :: number (q+1) xs
def start:Nat:=1000000
def visitP(ob:Ob):List Nat→List (Option Nat)→List Nat
  | acc,[]=>acc
  | acc,some o :: r=>match ob o with
    | some _=>visitP ob (visit depth ob acc (.ptr o 0)) r
    | none=>visitP ob acc r
  | acc,none :: r=>visitP ob acc r
def renP(ρ:Nat→Option Nat):List (Option Nat)→List (Option Nat)
  | [] => []
  | some o :: r=>ρ o :: renP ρ r
  | none :: r=>none :: renP ρ r
def canon(st:St):Option St :=
  let a:=denilL (denil depth) st.nx st.tm
  let b:=denilO a.2.2 st.ob
  let ob:=b.1++a.2.1++b.2.1
  let acc:=visitL (visit depth (lookN ob)) (visitP (lookN ob) [] st.ps) a.1
  match nodupB acc&&Nat.blt acc.length start,getOb (lookN ob) acc with
  | true,some os=>some ⟨renL (ren (ixFrom 0 acc) depth) a.1,number 0 (os.map (renO (ixFrom 0 acc))),start,renP (ixFrom 0 acc) st.ps⟩
  | _,_=>none
def head(ts:List Tmp)(st:St):Option St:=canon ⟨junkT st.tm ts,st.ob,st.nx,st.ps⟩
inductive Ex
  | normal
  | exit (n:Nat)
  | ret
abbrev Kt:=Ex→St→Prop
def condOf(E:Env)(tm:Tm)(c:Operand):Option Bool :=
  match opd E tm 0 c with
  | some (.val (.bool b))=>some b
  | _=>none
abbrev Lp:=Code→St→Kt→Prop
def seqK(b:St→Kt→Prop)(k:Kt):Kt:=fun e st =>
  match e with
  | .normal=>b st k
  | e=>k e st
def blockK(id:Nat)(k:Kt):Kt:=fun e st =>
  match e with
  | .exit i=>match Nat.beq i id with
    | true=>k .normal st
    | false=>k (.exit i) st
  | e=>k e st
def atHead(L:St→Prop)(s:Option St):Prop :=
  match s with
  | some st=>L st
  | none=>False
def regionP(E:Env)(G:Gk)(ops:List Oper)(draw:Bool)(st:St)(k:St→Prop):Prop :=
  match Nat.blt ops.length 1000 with
  | true=>match draw with
    | true=>match pairsOk ops (prepFrom 0 [] ops)&&backOk 0 ops with
      | true=>opsP E G st.nx true ops (prepFrom 0 [] ops) [] st k
      | false=>False
    | false=>opsP E G st.nx false ops (prepFrom 0 [] ops) [] st k
  | false=>False
def evP(E:Env)(G:Gk)(L:Lp):Code→St→Kt→Prop
  | .skip,st,k=>k .normal st
  | .region _ ops draw,st,k=>regionP E G ops.toList draw st fun st'=>k .normal ⟨st'.tm,st'.ob,st.nx+1000000,st.ps⟩
  | .seq a b,st,k=>evP E G L a st (seqK (evP E G L b) k)
  | .cond c a b,st,k=>match condOf E (getT st.tm) c with
    | some x=>br x (evP E G L a st k) (evP E G L b st k)
    | none=>False
  | .block id c,st,k=>evP E G L c st (blockK id k)
  | .loop c,st,k=>atHead (fun st=>L c st k) (head (jof E c) st)
  | .exit id,st,k=>k (.exit id) st
  | .ret,st,k=>k .ret st
  | _,_,_=>False
def loopOf(n:Nat):Code→Option Code
  | .seq a b=>match loopOf n a with
    | some c=>some c
    | none=>loopOf n b
  | .cond _ a b=>match loopOf n a with
    | some c=>some c
    | none=>loopOf n b
  | .block _ c=>loopOf n c
  | .loop c=>match isLoop n c with
    | true=>some c
    | false=>loopOf n c
  | _=>none
def hasLoop(n:Nat)(c:Code):Bool :=
  match loopOf n c with
  | some _=>true
  | none=>false
def contOf(E:Env)(G:Gk)(L:Lp)(n:Nat):Code→Kt→Kt
  | .seq a b,k=>match hasLoop n a with
    | true=>contOf E G L n a (seqK (evP E G L b) k)
    | false=>contOf E G L n b k
  | .cond _ a b,k=>match hasLoop n a with
    | true=>contOf E G L n a k
    | false=>contOf E G L n b k
  | .block id c,k=>contOf E G L n c (blockK id k)
  | .loop c,k=>match isLoop n c with
    | true=>k
    | false=>contOf E G L n c (seqK (fun st k=>atHead (fun st=>L c st k) (head (jof E c) st)) k)
  | _,k=>k
def resultAV(E:Env)(st:St):ResultVar→Option AV
  | .tmp t=>some (getT st.tm t)
  | .cell a t=>match lookN E.tt t with
    | some ti=>match readAt (lookN st.ob) ti.size (getT st.tm a) with
      | some us=>ofCells ti us
      | none=>none
    | none=>none
def resultsAV(E:Env)(st:St)(rs:List ResultVar):Option AV :=
  match mapX (resultAV E st) rs with
  | some [v]=>some v
  | some vs=>some (.tup vs)
  | none=>none
def outsOf(ob:Ob):List (Option Nat)→List Nat→List (Option Nat) × List Nat
  | [],acc=>([],acc)
  | none :: r,acc=>let s:=outsOf ob r acc; (none :: s.1,s.2)
  | some o :: r,acc =>
    if acc.contains o then let s:=outsOf ob r acc; (none :: s.1,s.2)
    else match ob o with
      | some _=>let s:=outsOf ob r (visit depth ob acc (.ptr o 0)); (some acc.length :: s.1,s.2)
      | none=>let s:=outsOf ob r acc; (none :: s.1,s.2)
def okOuts(acc:List Nat):List (Option Nat)→List (Option Nat)→Bool
  | [],[]=>true
  | none :: os,_ :: ps=>okOuts acc os ps
  | some q :: os,some o :: ps=>(match ixFrom 0 acc o with | some q'=>Nat.beq q q' | none=>false)&&okOuts acc os ps
  | _,_=>false
def finish(E:Env)(rs:List ResultVar)(st:St):Option Res :=
  match resultsAV E st rs with
  | some v =>
    let a:=denil depth st.nx v
    let b:=denilO a.2.2 st.ob
    let ob:=b.1++a.2.1++b.2.1
    let r:=outsOf (lookN ob) st.ps (visit depth (lookN ob) [] a.1)
    match nodupB r.2&&okOuts r.2 r.1 st.ps,getOb (lookN ob) r.2 with
    | true,some os=>some ⟨ren (ixFrom 0 r.2) depth a.1,os.map (renO (ixFrom 0 r.2)),r.1⟩
    | _,_=>none
  | none=>none
def handed:Nat→List AO→List (Option Nat)
  | _,[] => []
  | q,_ :: r=>some q :: handed (q+1) r
def initSt(n:Nat)(args:List AV)(obs:List AO):St:=⟨args++List.replicate (n - args.length) (.val undef),number 0 obs,start,handed 0 obs⟩
def endK(E:Env)(rs:List ResultVar)(R:Option Res→Prop):Kt:=fun e st =>
  match e with
  | .normal=>R (finish E rs st)
  | .ret=>R (finish E rs st)
  | .exit _=>False
def codeOf(fn : Func) : Code := match fn.body with | some c => c | none => .refuse ""
def resT:List ResultVar→List Tmp
  | [] => []
  | .tmp t :: r=>t :: resT r
  | .cell a _ :: r=>a :: resT r
def Env.of(E:Env)(fn:Func):Env:=⟨E.tt,E.io,E.eqs,codeOf fn,resT fn.results.toList⟩
def bodyP(E:Env)(G:Gk)(L:Lp)(fn:Func)(args:List AV)(obs:List AO)(R:Option Res→Prop):Prop :=
  evP (E.of fn) G L (codeOf fn) (initSt fn.ntmps args obs) (endK (E.of fn) fn.results.toList R)
end Go.Proofs.YtkjnijddbiconaaGreatDoor.Ev

namespace Go.Proofs.YtkjnijddbiconaaGreatDoor.Ev
open Go
def TabW(_:World):Prop:=True
end Go.Proofs.YtkjnijddbiconaaGreatDoor.Ev

namespace Go.Proofs.YtkjnijddbiconaaGreatDoor.Ev
open Go
set_option linter.unusedVariables false
set_option linter.unusedSimpArgs false
structure Bk where
  b:Nat
  n:Nat
  m:Nat
  sz:Nat
  real:Bool
abbrev Sg:=Nat→Option Bk
structure Sb where
  f:Nat→Option Obj
  g:Nat→Option Obj
  sub : ∀ b x,g b=some x→f b=some x
instance:CoeFun Sb fun _=>Nat→Option Obj:=⟨Sb.f⟩
def SH(w:World):Sb:=⟨fun b=>w.heap[b]?,fun b=>w.heap[b]?,fun _ _ h=>h⟩
def cellS(S:Sb)(a:Addr):Option Value :=
  match S.g a.block with
  | some (.cells c _ _)=>if a.spot.isSome then none else c[a.off]?
  | _=>none
inductive R (S:Sb) (σ:Sg):AV→Value→Prop
  | val (v:Value):R S σ (.val v) v
  | junk (v:Value):R S σ .junk v
  | cel (v:Value) (h:v.oneCell'=true):R S σ .cel v
  | ifc (t:TypeId) (v:Value):R S σ .ifc (.iface t v)
  | nsl (cs:List CK):R S σ (.nsl cs) (.slice none 0 0)
  | rsl (cs:List CK) (xs:List (Elem cs)) (A:Option Addr) (c:Nat) (hc:xs.length≤c)
      (h : ∀ j u,(flat cs xs)[j]? = some u → ∃ a,A=some a∧cellS S (a.add j)=some u):R S σ (.rsl cs xs) (.slice A xs.length c)
  | rel (us:List Value) (a:Addr) (h : ∀ j u,us[j]? = some u→cellS S (a.add j)=some u):R S σ (.rel us) (.pointer (some a))
  | rpt (us:List AV) (vs:List Value) (a:Addr) (hl:us.length=vs.length) (h : ∀ (j:Nat) u v,us[j]? = some u→vs[j]? = some v→R S σ u v)
      (hv : ∀ (j:Nat) v,vs[j]? = some v→cellS S (a.add j)=some v):R S σ (.rpt us) (.pointer (some a))
  | ows (o:Nat) (k:Bk) (cap:Nat) (hk:σ o=some k) (hr:k.real=true) (h1:k.n≤cap) (h2:cap * k.m≤k.sz) :
      R S σ (.ows o) (.slice (some ⟨k.b,0,none⟩) k.n cap)
  | ows0 (o:Nat) (k:Bk) (x:Option Addr) (hk:σ o=some k) (hr:k.real=false) (hn:k.n=0):R S σ (.ows o) (.slice x 0 0)
  | osl (o lo n:Nat) (k:Bk) (cap:Nat) (hk:σ o=some k) (hr:k.real=true) (h0:lo+n≤k.n) (h1:n≤cap) (h2:(lo+cap) * k.m≤k.sz) :
      R S σ (.osl o lo n) (.slice (some ⟨k.b,lo * k.m,none⟩) n cap)
  | osl0 (o lo:Nat) (k:Bk) (x:Option Addr) (hk:σ o=some k) (h0:lo≤k.n):R S σ (.osl o lo 0) (.slice x 0 0)
  | oel (o i j:Nat) (k:Bk) (hk:σ o=some k) (hr:k.real=true) (h:i < k.n):R S σ (.oel o i j) (.pointer (some ⟨k.b,i * k.m+j,none⟩))
  | ptr (o j:Nat) (k:Bk) (hk:σ o=some k) (hr:k.real=true):R S σ (.ptr o j) (.pointer (some ⟨k.b,j,none⟩))
  | bsl (o j:Nat) (cs:List CK) (n:Nat) (k:Bk) (c:Nat) (hk:σ o=some k) (hr:k.real=true) (hc:n≤c):R S σ (.bsl o j cs n) (.slice (some ⟨k.b,j,none⟩) n c)
  | agg (us:List AV) (vs:List Value) (hl:us.length=vs.length) (h : ∀ (j:Nat) u v,us[j]? = some u→vs[j]? = some v→R S σ u v):R S σ (.agg us) (.agg vs.toArray)
  | fn (f:Nat) (us:List AV) (vs:List Value) (hl:us.length=vs.length) (h : ∀ (j:Nat) u v,us[j]? = some u→vs[j]? = some v→R S σ u v) :
      R S σ (.fn f us) (.func (.func f) #[] vs.toArray)
  | tup (us:List AV) (vs:List Value) (hl:us.length=vs.length) (h : ∀ (j:Nat) u v,us[j]? = some u→vs[j]? = some v→R S σ u v):R S σ (.tup us) (.tuple vs.toArray)
def RL(S:Sb)(σ:Sg)(us:List AV)(vs:List Value):Prop:=us.length=vs.length ∧ ∀ (j:Nat) u v,us[j]? = some u→vs[j]? = some v→R S σ u v
theorem cellS_mono{S S':Sb}(h : ∀ b x,S.g b=some x→S'.g b=some x){a:Addr}{v:Value}(hc:cellS S a=some v):cellS S' a=some v:=by
  unfold cellS at *
  split at hc
  · rename_i c e f hb; rw [h _ _ hb]; exact hc
  · cases hc
theorem cellS_world{S:Sb}{w:World}(h : ∀ b x,S b=some x→w.heap[b]? = some x){a:Addr}{v:Value}(hc:cellS S a=some v):w.cell? a=some v:=by
  unfold cellS at hc
  unfold World.cell?
  split at hc
  · rename_i c e f hb; rw [h _ _ (S.sub _ _ hb)]; exact hc
  · cases hc
theorem R.mono{S S':Sb}{σ σ':Sg}{a:AV}{v:Value}(h:R S σ a v)(hσ : ∀ o k,σ o=some k→σ' o=some k)(hS : ∀ b x,S.g b=some x→S'.g b=some x):R S' σ' a v:=by
  induction h with
  | val v=>exact .val v
  | junk v=>exact .junk v
  | cel v h=>exact .cel v h
  | ifc t v=>exact .ifc t v
  | nsl cs=>exact .nsl cs
  | rsl cs xs A c hc h=>exact .rsl cs xs A c hc fun j u hu=>let ⟨a,e,h⟩:=h j u hu; ⟨a,e,cellS_mono hS h⟩
  | rel us a h=>exact .rel us a fun j u hu=>cellS_mono hS (h j u hu)
  | rpt us vs a hl _ hv ih=>exact .rpt us vs a hl ih fun j v hj=>cellS_mono hS (hv j v hj)
  | ows o k cap hk hr h1 h2=>exact .ows o k cap (hσ _ _ hk) hr h1 h2
  | ows0 o k x hk hr hn=>exact .ows0 o k x (hσ _ _ hk) hr hn
  | osl o lo n k cap hk hr h0 h1 h2=>exact .osl o lo n k cap (hσ _ _ hk) hr h0 h1 h2
  | osl0 o lo k x hk h0=>exact .osl0 o lo k x (hσ _ _ hk) h0
  | oel o i j k hk hr h=>exact .oel o i j k (hσ _ _ hk) hr h
  | ptr o j k hk hr=>exact .ptr o j k (hσ _ _ hk) hr
  | bsl o j cs n k c hk hr hc=>exact .bsl o j cs n k c (hσ _ _ hk) hr hc
  | agg us vs hl _ ih=>exact .agg us vs hl ih
  | fn f us vs hl _ ih=>exact .fn f us vs hl ih
  | tup us vs hl _ ih=>exact .tup us vs hl ih
theorem RL.mono{S S':Sb}{σ σ':Sg}{us:List AV}{vs:List Value}(h:RL S σ us vs)(hσ : ∀ o k,σ o=some k→σ' o=some k)(hS : ∀ b x,S.g b=some x→S'.g b=some x):RL S' σ' us vs :=
  ⟨h.1,fun j u v hu hv=>(h.2 j u v hu hv).mono hσ hS⟩
theorem RL.nil{S:Sb}{σ:Sg}:RL S σ [] []:=⟨rfl,fun j u v h _=>by simp at h⟩
theorem RL.cons{S:Sb}{σ:Sg}{a:AV}{v:Value}{us:List AV}{vs:List Value}(h:R S σ a v)(t:RL S σ us vs):RL S σ (a :: us) (v :: vs) :=
  ⟨by simp [t.1],fun j u w hu hw=>by
    cases j with
    | zero=>simp at hu hw; subst hu; subst hw; exact h
    | succ j=>simp at hu hw; exact t.2 j u w hu hw⟩
theorem RL.uncons{S:Sb}{σ:Sg}{a:AV}{us:List AV}{ws:List Value}(h:RL S σ (a :: us) ws) : ∃ v vs,ws=v :: vs∧R S σ a v∧RL S σ us vs:=by
  cases ws with
  | nil=>simp [RL] at h
  | cons v vs=>exact ⟨v,vs,rfl,h.2 0 a v rfl rfl,by simpa using h.1,fun j u w hu hw=>h.2 (j+1) u w (by simpa using hu) (by simpa using hw)⟩
theorem RL.append{S:Sb}{σ:Sg}{us us':List AV}{vs vs':List Value}(h:RL S σ us vs)(h':RL S σ us' vs'):RL S σ (us++us') (vs++vs'):=by
  induction us generalizing vs with
  | nil=>cases vs with
    | nil=>exact h'
    | cons v vs=>simp [RL] at h
  | cons a us ih =>
    obtain ⟨v,vs,rfl,h1,h2⟩:=h.uncons
    exact .cons h1 (ih h2)
theorem RL.drop{S:Sb}{σ:Sg}{us:List AV}{vs:List Value}(n:Nat)(h:RL S σ us vs):RL S σ (us.drop n) (vs.drop n) :=
  ⟨by simp [h.1],fun j u v hu hv=>h.2 (n+j) u v (by simpa [List.getElem?_drop] using hu) (by simpa [List.getElem?_drop] using hv)⟩
theorem RL.take{S:Sb}{σ:Sg}{us:List AV}{vs:List Value}(n:Nat)(h:RL S σ us vs):RL S σ (us.take n) (vs.take n):=by
  refine ⟨by simp [h.1],fun j u v hu hv => ?_⟩
  rw [List.getElem?_take] at hu hv
  split at hu
  · simp_all; exact h.2 j u v hu hv
  · cases hu
theorem RL.vals{S:Sb}{σ:Sg}(vs:List Value):RL S σ (vs.map .val) vs:=by
  refine ⟨by simp,fun j u v hu hv => ?_⟩
  rw [List.getElem?_map,hv] at hu
  simp at hu
  subst hu
  exact .val v
def objOK(S:Sb)(σ:Sg)(w:World)(k:Bk):AO→Prop
  | .row cs xs=>xs.length=k.n∧(k.real=false→xs = []) ∧
      (k.real=true→cs.length=k.m ∧ ∃ cur e,w.heap[k.b]? = some (.cells cur e (0,0))∧cur.size=k.sz∧cur.toList.take (flat cs xs).length=flat cs xs)
  | .box us=>k.real=true ∧ ∃ cur e,w.heap[k.b]? = some (.cells cur e (0,0))∧RL S σ us cur.toList
def TabOK(S:Sb):Prop := ∀ w:World,(∀ b x,S b=some x→w.heap[b]? = some x)→TabW w
theorem TabOK.mono{S S':Sb}(h:TabOK S)(hS : ∀ b x,S b=some x→S' b=some x):TabOK S':=fun w hw=>h w fun b x hb=>hw b x (hS b x hb)
structure OI (S:Sb) (σ:Sg) (ob:Ob) (w:World):Prop where
  ok : ∀ o x,ob o=some x → ∃ k,σ o=some k∧objOK S σ w k x
  inj : ∀ o o' x x' k k',ob o=some x→ob o'=some x'→σ o=some k→σ o'=some k'→k.real=true→k'.real=true→k.b=k'.b→o=o'
  st : ∀ b x,S b=some x→w.heap[b]? = some x
  sep : ∀ o x k,ob o=some x→σ o=some k→k.real=true→S k.b=none
  tab:TabOK S
structure Tail (w w':World):Prop where
  os:w'.os=w.os
  tape:w'.tape=w.tape
  output:w'.output=w.output
  size:w.heap.size≤w'.heap.size
theorem Tail.refl(w:World):Tail w w:=⟨rfl,rfl,rfl,Nat.le_refl _⟩
theorem Tail.trans{a b c:World}(h:Tail a b)(k:Tail b c):Tail a c:=⟨k.os.trans h.os,k.tape.trans h.tape,k.output.trans h.output,Nat.le_trans h.size k.size⟩
structure Cx where
  S:Sb
  π:Nat→Option Bk
  w0:World
structure Inv (C:Cx) (σ:Sg) (st:St) (a:Act) (w:World):Prop where
  len:a.tmps.size=st.tm.length
  tm : ∀ s v,a.tmps[s]? = some v→R C.S σ (getT st.tm s) v
  oi:OI C.S σ (lookN st.ob) w
  nx : ∀ o,σ o≠none→o < st.nx
  ps : ∀ (i o:Nat),st.ps[i]? = some (some o) → ∃ k,σ o=some k∧C.π i=some k
  df:a.defers = []
  tl:Tail C.w0 w
theorem getT_none : ∀ (l:List AV) (s:Nat),l.length≤s→getT l s = .junk
  | [],_,_=>rfl
  | _ :: _,0,h=>by simp at h
  | _ :: l,s+1,h=>getT_none l s (by simpa using h)
theorem getT_eq : ∀ (l:List AV) (s:Nat) (u:AV),l[s]? = some u→getT l s=u
  | [],_,_,h=>by simp at h
  | a :: _,0,u,h=>by simp at h; subst h; rfl
  | _ :: l,s+1,u,h=>getT_eq l s u (by simpa using h)
theorem setT_len : ∀ (l:List AV) (s:Nat) (x:AV),(setT l s x).length=l.length
  | [],_,_=>rfl
  | _ :: _,0,_=>rfl
  | _ :: l,s+1,x=>by simp [setT,setT_len l s x]
theorem getT_setT : ∀ (l:List AV) (s t:Nat) (x:AV),getT (setT l s x) t=if t=s∧s < l.length then x else getT l t
  | [],s,t,x=>by simp [setT,getT]
  | a :: l,0,0,x=>by simp [setT,getT]
  | a :: l,0,t+1,x=>by simp [setT,getT]
  | a :: l,s+1,0,x=>by simp [setT,getT]
  | a :: l,s+1,t+1,x=>by simp [setT,getT,getT_setT l s t x]
theorem setT_getT : ∀ (l:List AV) (s:Nat),setT l s (getT l s)=l
  | [],_=>rfl
  | _ :: _,0=>rfl
  | a :: l,s+1=>by simp [setT,getT,setT_getT l s]
theorem lookN_putO(l:List (Nat × AO))(o p:Nat)(x:AO):lookN (putO l o x) p=if p=o then some x else lookN l p:=by
  induction l with
  | nil =>
    by_cases h:p=o
    · subst h; simp [putO,lookN]
    · have : ¬ o=p:=fun e=>h e.symm
      simp [putO,lookN,h,this]
  | cons a r ih =>
    obtain ⟨q,y⟩:=a
    by_cases hq:q=o
    · subst hq
      by_cases h:p=q
      · subst h; simp [putO,lookN]
      · have : ¬ q=p:=fun e=>h e.symm
        simp [putO,lookN,h,this]
    · by_cases h:q=p
      · subst h; simp [putO,lookN,hq]
      · simp [putO,lookN,hq,h,ih]
theorem lookN_delO(l:List (Nat × AO))(o p:Nat):lookN (delO l o) p=if p=o then none else lookN l p:=by
  induction l with
  | nil=>simp [delO,lookN]
  | cons a r ih =>
    obtain ⟨q,y⟩:=a
    by_cases hq:q=o
    · subst hq
      by_cases h:p=q
      · subst h; simp [delO,ih]
      · have : ¬ q=p:=fun e=>h e.symm
        simp [delO,lookN,h,this,ih]
    · by_cases h:q=p
      · subst h; simp [delO,lookN,hq]
      · simp [delO,lookN,hq,h,ih]
def updF:Ob→List (Nat × Option AO)→Ob
  | ob,[]=>ob
  | ob,(o,x) :: r=>updF (fun p=>if p=o then x else ob p) r
theorem lookN_updO : ∀ (u:List (Nat × Option AO)) (l:List (Nat × AO)),lookN (updO l u)=updF (lookN l) u
  | [],l=>rfl
  | (o,some x) :: r,l=>by
    rw [updO,lookN_updO r,updF]
    congr 1
    funext p
    exact lookN_putO l o p x
  | (o,none) :: r,l=>by
    rw [updO,lookN_updO r,updF]
    congr 1
    funext p
    exact lookN_delO l o p
theorem updF_not(u:List (Nat × Option AO)) : ∀ (ob:Ob) (p:Nat),p ∉ u.map (·.1)→updF ob u p=ob p:=by
  induction u with
  | nil=>intros; rfl
  | cons a r ih =>
    obtain ⟨o,x⟩:=a
    intro ob p h
    simp at h
    rw [updF,ih _ _ (by simpa using h.2),if_neg h.1]
theorem updF_in(u:List (Nat × Option AO)) : ∀ (ob ob':Ob) (p:Nat),p∈u.map (·.1)→updF ob u p=updF ob' u p:=by
  induction u with
  | nil=>intro _ _ _ h; simp at h
  | cons a r ih =>
    obtain ⟨o,x⟩:=a
    intro ob ob' p h
    rw [updF,updF]
    by_cases hr:p∈r.map (·.1)
    · exact ih _ _ p hr
    · rw [updF_not r _ p hr,updF_not r _ p hr]
      simp at h
      rcases h with h | h
      · simp [h]
      · exact absurd (by simpa using h) hr
theorem vals_length : ∀ (cs:List CK) (e:Elem cs),(vals cs e).length=cs.length
  | [],_=>rfl
  | c :: cs,e=>by simp [vals,vals_length cs e.2]
theorem flat_length(cs:List CK)(xs:List (Elem cs)):(flat cs xs).length=xs.length * cs.length:=by
  induction xs with
  | nil=>simp [flat]
  | cons x xs ih =>
    have:(flat cs (x :: xs)).length=(vals cs x).length+(flat cs xs).length:=by simp [flat]
    rw [this,vals_length,ih,List.length_cons,Nat.add_mul]
    omega
theorem flat_append(cs:List CK)(xs ys:List (Elem cs)):flat cs (xs++ys)=flat cs xs++flat cs ys:=by simp [flat]
theorem flat_cons(cs:List CK)(x:Elem cs)(xs:List (Elem cs)):flat cs (x :: xs)=vals cs x++flat cs xs:=by simp [flat]
theorem flat_drop(cs:List CK) : ∀ (n:Nat) (xs:List (Elem cs)),flat cs (xs.drop n)=(flat cs xs).drop (n * cs.length)
  | 0,xs=>by simp
  | n+1,[]=>by simp [flat]
  | n+1,x :: xs=>by
    rw [List.drop_succ_cons,flat_drop cs n xs,flat_cons,Nat.add_mul,Nat.one_mul,Nat.add_comm,← List.drop_drop]
    congr 1
    rw [List.drop_append_of_le_length (by rw [vals_length]; omega),List.drop_eq_nil_of_le (by rw [vals_length]; omega)]
    rfl
theorem flat_take(cs:List CK) : ∀ (n:Nat) (xs:List (Elem cs)),flat cs (xs.take n)=(flat cs xs).take (n * cs.length)
  | 0,xs=>by simp [flat]
  | n+1,[]=>by simp [flat]
  | n+1,x :: xs=>by
    have hm:(n+1) * cs.length=(vals cs x).length+n * cs.length:=by rw [vals_length,Nat.add_mul]; omega
    rw [List.take_succ_cons,flat_cons,flat_cons,flat_take cs n xs,hm,List.take_length_add_append]
theorem flat_at(cs:List CK)(xs:List (Elem cs))(i:Nat)(h:i < xs.length):((flat cs xs).drop (i * cs.length)).take cs.length=vals cs (xs.getD i (edflt cs)):=by
  rw [← flat_drop]
  have:xs.drop i=xs.getD i (edflt cs) :: xs.drop (i+1):=by
    rw [List.drop_eq_getElem_cons h]
    simp [List.getD_eq_getElem?_getD,h]
  rw [this,flat_cons,List.take_append_of_le_length (by rw [vals_length]; omega),List.take_of_length_le (by rw [vals_length]; omega)]
theorem flat_get(cs:List CK)(xs:List (Elem cs))(i j:Nat)(h:i < xs.length)(hj:j < cs.length):(flat cs xs)[i * cs.length+j]? = (vals cs (xs.getD i (edflt cs)))[j]? := by
  have:=congrArg (fun l=>l[j]?) (flat_at cs xs i h)
  simp only [List.getElem?_take,List.getElem?_drop,hj,if_true] at this
  exact this
theorem ofVal_val(c:CK)(v:Value)(x:c.T)(h:c.ofVal v=some x):v=c.val x:=by
  cases c<;>cases v<;>simp [CK.ofVal] at h
  · obtain ⟨rfl,rfl⟩:=h; rfl
  · subst h; rfl
  · subst h; rfl
theorem ofVals_vals : ∀ (cs:List CK) (vs:List Value) (e:Elem cs),ofVals cs vs=some e→vs=vals cs e
  | [],[],e,_=>rfl
  | [],_ :: _,e,h=>by simp [ofVals] at h
  | c :: cs,[],e,h=>by simp [ofVals] at h
  | c :: cs,v :: vs,e,h=>by
    simp only [ofVals] at h
    split at h
    · rename_i x hx
      split at h
      · rename_i e' he
        simp at h
        subst h
        rw [vals,ofVal_val c v x hx,ofVals_vals cs vs e' he]
      · cases h
    · cases h
theorem flat_set(cs:List CK)(xs:List (Elem cs))(i:Nat)(e:Elem cs)(h:i < xs.length) :
    flat cs (xs.set i e)=(flat cs xs).take (i * cs.length)++vals cs e++(flat cs xs).drop ((i+1) * cs.length):=by
  rw [← flat_take,← flat_drop]
  have:xs.set i e=xs.take i++e :: xs.drop (i+1):=by
    apply List.ext_getElem?
    intro j
    rw [List.getElem?_set]
    by_cases h1:i=j
    · subst h1
      simp [h,List.getElem?_append_right (show (xs.take i).length≤i by rw [List.length_take]; omega),List.length_take,Nat.min_eq_left (Nat.le_of_lt h)]
    · rw [if_neg h1]
      by_cases h2:j < i
      · rw [List.getElem?_append_left (by simp; omega),List.getElem?_take,if_pos h2]
      · have:j=i+1+(j - i - 1):=by omega
        rw [List.getElem?_append_right (by rw [List.length_take]; omega)]
        simp only [List.length_take,Nat.min_eq_left (Nat.le_of_lt h)]
        rw [show j - i=(j - i - 1)+1 by omega,List.getElem?_cons_succ,List.getElem?_drop]
        congr 1
  rw [this,flat_append,flat_cons,List.append_assoc]
end Go.Proofs.YtkjnijddbiconaaGreatDoor.Ev

namespace Go.Proofs.YtkjnijddbiconaaGreatDoor.Ev
open Go
set_option linter.unusedVariables false
set_option linter.unusedSimpArgs false
def undD(P:Program)(t:Nat):TD :=
  match P.underlying t with
  | some (.int k) => .int k
  | some .bool => .bool
  | some .string => .str
  | some (.slice e) => .slice e
  | some (.array n e) => .array n e
  | some (.struct fs) => .struct (fs.toList.map fun f=>(f.offset,((P.info? f.type).map (·.size)).getD 0,f.type))
  | some (.interface _) => .iface
  | _ => .other
def zval:ZK→Value
  | .v v=>v
  | .slc _ => .slice none 0 0
def TI.zero(ti:TI):Value :=
  if ti.isAgg then .agg (ti.z.map zval).toArray else match ti.z with
    | [z]=>zval z
    | _ => .tuple #[]
structure RowOK (P:Program) (t:Nat) (ti:TI):Prop where
  d:undD P t=ti.d
  i:(P.info? t).map (fun i=>(i.size,i.bytes,i.zero))=some (ti.size,ti.bytes,some ti.zero)
  u:(P.underlying t).isSome=true
  z:ti.z.length=ti.size
  k:ti.cks = []∨ti.z.map zval=vals ti.cks (edflt ti.cks)
  c:ti.zero.cells.toList=ti.z.map zval
def TTOK(P:Program)(tt:List (Nat × TI)):Prop := ∀ t ti,(t,ti)∈tt→RowOK P t ti
theorem lookN_mem{α:Type} : ∀ (l:List (Nat × α)) (t:Nat) (a:α),lookN l t=some a→(t,a)∈l
  | [],_,_,h=>by simp [lookN] at h
  | (k,b) :: r,t,a,h=>by
    simp only [lookN] at h
    by_cases e:k=t
    · subst e; simp at h; subst h; simp
    · simp [e] at h; exact List.mem_cons_of_mem _ (lookN_mem r t a h)
variable {P:Program}
theorem TTOK.row{tt:List (Nat × TI)}(h:TTOK P tt){t:Nat}{ti:TI}(hl:lookN tt t=some ti):RowOK P t ti:=h t ti (lookN_mem tt t ti hl)
theorem RowOK.info{t:Nat}{ti:TI}(h:RowOK P t ti) : ∃ i,P.info? t=some i∧i.size=ti.size∧i.bytes=ti.bytes∧i.zero=some ti.zero:=by
  have h:=h.i
  cases hi:P.info? t with
  | none=>simp [hi] at h
  | some i=>simp [hi] at h; exact ⟨i,rfl,h.1,h.2.1,h.2.2⟩
theorem RowOK.sizeOf{t:Nat}{ti:TI}(h:RowOK P t ti)(w:World):(sizeOf t).run P w = .ok ti.size w:=by
  obtain ⟨i,hi,hs,_,_⟩:=h.info
  simp [Go.sizeOf,typeInfo,hi,hs]
theorem RowOK.desc{t:Nat}{ti:TI}(h:RowOK P t ti) : ∃ d,P.underlying t=some d:=Option.isSome_iff_exists.1 h.u
theorem RowOK.isAgg{t:Nat}{ti:TI}(h:RowOK P t ti)(w:World):(Go.isAgg t).run P w = .ok ti.isAgg w:=by
  obtain ⟨d,hd⟩:=h.desc
  have hh:=h.d
  unfold undD at hh
  rw [hd] at hh
  unfold Go.isAgg
  rw [Sem.run_bind,run_underlying hd w]
  cases d<;>simp [TI.isAgg,← hh]
theorem RowOK.slice{t:Nat}{ti:TI}(h:RowOK P t ti){e:Nat}(hd:ti.d = .slice e):P.underlying t=some (.slice e):=by
  have hh:=h.d
  rw [hd] at hh
  unfold undD at hh
  split at hh<;>simp_all
theorem RowOK.array{t:Nat}{ti:TI}(h:RowOK P t ti){n e:Nat}(hd:ti.d = .array n e):P.underlying t=some (.array n e):=by
  have hh:=h.d
  rw [hd] at hh
  unfold undD at hh
  split at hh<;>simp_all
theorem RowOK.str{t:Nat}{ti:TI}(h:RowOK P t ti)(hd:ti.d = .str):P.underlying t=some .string:=by
  have hh:=h.d
  rw [hd] at hh
  unfold undD at hh
  split at hh<;>simp_all
theorem RowOK.bool{t:Nat}{ti:TI}(h:RowOK P t ti)(hd:ti.d = .bool):P.underlying t=some .bool:=by
  have hh:=h.d
  rw [hd] at hh
  unfold undD at hh
  split at hh<;>simp_all
theorem RowOK.iface{t:Nat}{ti:TI}(h:RowOK P t ti)(hd:ti.d = .iface) : ∃ ms,P.underlying t=some (.interface ms):=by
  have hh:=h.d
  rw [hd] at hh
  unfold undD at hh
  split at hh<;>simp_all
theorem RowOK.int{t:Nat}{ti:TI}(h:RowOK P t ti){k:IntKind}(hd:ti.d = .int k):P.underlying t=some (.int k):=by
  have hh:=h.d
  rw [hd] at hh
  unfold undD at hh
  split at hh<;>simp_all
theorem RowOK.struct{t:Nat}{ti:TI}(h:RowOK P t ti){fs:List (Nat × Nat × Nat)}(hd:ti.d = .struct fs) :
    ∃ gs,P.underlying t=some (.struct gs)∧fs=gs.toList.map fun f=>(f.offset,((P.info? f.type).map (·.size)).getD 0,f.type):=by
  have hh:=h.d
  rw [hd] at hh
  unfold undD at hh
  split at hh<;>simp_all
theorem constCell_R{S:Sb}{σ:Sg}(z:ZK)(v:Value):R S σ (constCell z v) v:=by
  unfold constCell
  split
  · exact .nsl _
  · exact .val v
theorem constCells_RL{S:Sb}{σ:Sg} : ∀ (zs:List ZK) (vs:List Value),zs.length=vs.length→RL S σ (constCells zs vs) vs
  | [],[],_ => .nil
  | [],_ :: _,h=>by simp at h
  | _ :: _,[],h=>by simp at h
  | z :: zs,v :: vs,h => .cons (constCell_R z v) (constCells_RL zs vs (by simpa using h))
theorem constAV_R{S:Sb}{σ:Sg}(ti:Option TI)(v:Value)(a:AV)(h:constAV ti v=some a):R S σ a v:=by
  unfold constAV at h
  split at h
  · rename_i cs
    split at h
    · rename_i t
      split at h
      · rename_i hb
        simp at h; subst h
        have hl:=constCells_RL (S:=S) (σ:=σ) t.z cs.toList (by simpa using hb)
        exact .agg _ cs.toList hl.1 hl.2
      · cases h
    · cases h
  · split at h
    · simp at h; subst h; exact .nsl _
    · cases h
  · cases h
  · cases h
  · simp at h; subst h; exact .val _
section
variable {E:Env} {S:Sb} {σ:Sg} {l:List AV} {a:Act} {ob:Ob} {w:World}
structure Slots (S:Sb) (σ:Sg) (l:List AV) (a:Act):Prop where
  len:a.tmps.size=l.length
  tm : ∀ s v,a.tmps[s]? = some v→R S σ (getT l s) v
theorem opd_R(hs:Slots S σ l a)(t:Nat)(x:Operand)(av:AV)(h:opd E (getT l) t x=some av):R S σ av (a.eval x):=by
  unfold opd at h
  split at h
  · rename_i s
    simp at h; subst h
    simp only [Act.eval]
    cases hv:a.tmps[s]? with
    | none =>
      have:a.tmps.size≤s:=by simpa using hv
      rw [getT_none l s (by rw [← hs.len]; exact this)]
      exact .junk _
    | some v=>simpa [hv] using hs.tm s v hv
  · exact constAV_R _ _ _ h
  · simp at h; subst h
    exact .fn _ [] [] rfl fun j u v hu=>by simp at hu
  · cases h
theorem opdL_RL(hs:Slots S σ l a) : ∀ (ts:List Nat) (xs:List Operand) (az:List AV),opdL E (getT l) ts xs=some az→RL S σ az (xs.map a.eval)
  | _,[],az,h=>by simp [opdL] at h; subst h; exact .nil
  | [],x :: xs,az,h=>by
    simp only [opdL] at h
    split at h
    · rename_i b hb
      split at h
      · rename_i bs hbs
        simp at h; subst h
        exact .cons (opd_R hs _ _ _ hb) (opdL_RL hs [] xs bs hbs)
      · cases h
    · cases h
  | t :: ts,x :: xs,az,h=>by
    simp only [opdL] at h
    split at h
    · rename_i b hb
      split at h
      · rename_i bs hbs
        simp at h; subst h
        exact .cons (opd_R hs _ _ _ hb) (opdL_RL hs ts xs bs hbs)
      · cases h
    · cases h
theorem takeX_eq{α:Type} : ∀ (n:Nat) (l r:List α),takeX n l=some r→r=l.take n∧n≤l.length
  | 0,l,r,h=>by simp [takeX] at h; subst h; simp
  | n+1,[],r,h=>by simp [takeX] at h
  | n+1,x :: l,r,h=>by
    simp only [takeX] at h
    split at h
    · rename_i q hq
      simp at h; subst h
      obtain ⟨h1,h2⟩:=takeX_eq n l q hq
      exact ⟨by simp [h1],by simpa using h2⟩
    · cases h
theorem spliceX_eq{α:Type} : ∀ (j:Nat) (ns us r:List α),spliceX j ns us=some r→j+ns.length≤us.length∧r=us.take j++ns++us.drop (j+ns.length)
  | 0,[],us,r,h=>by simp [spliceX] at h; subst h; simp
  | 0,n :: ns,[],r,h=>by simp [spliceX] at h
  | 0,n :: ns,u :: us,r,h=>by
    simp only [spliceX] at h
    split at h
    · rename_i q hq
      simp at h; subst h
      obtain ⟨h1,h2⟩:=spliceX_eq 0 ns us q hq
      refine ⟨by simp at h1 ⊢; omega,?_⟩
      simp at h2
      simp [h2]
    · cases h
  | j+1,ns,[],r,h=>by simp [spliceX] at h
  | j+1,ns,u :: us,r,h=>by
    simp only [spliceX] at h
    split at h
    · rename_i q hq
      simp at h; subst h
      obtain ⟨h1,h2⟩:=spliceX_eq j ns us q hq
      refine ⟨by simp at h1 ⊢; omega,?_⟩
      have:j+1+ns.length=(j+ns.length)+1:=by omega
      simp [h2,this]
    · cases h
theorem block_cell{w:World}{b:Nat}{cur:Array Value}{e:TypeId}{fr:Nat × Nat}(h:w.heap[b]? = some (.cells cur e fr))(o j:Nat):w.cell? ((⟨b,o,none⟩:Addr).add j)=cur[o+j]? := by
  rw [Addr.add_mid]
  simp [World.cell?,h]
theorem readAt_ok(oi:OI S σ ob w){n:Nat}{av:AV}{us:List AV}(h:readAt ob n av=some us){v:Value}(r:R S σ av v) :
    ∃ ad vs,v = .pointer (some ad)∧vs.length=n∧RL S σ us vs ∧ ∀ j u,vs[j]? = some u→w.cell? (ad.add j)=some u:=by
  unfold readAt at h
  split at h
  · rename_i o j
    split at h
    · rename_i us0 ho
      obtain ⟨rfl,hn⟩:=takeX_eq _ _ _ h
      cases r with
      | ptr _ _ k hk hr =>
        obtain ⟨k',hk',ok⟩:=oi.ok o _ ho
        rw [hk] at hk'
        obtain rfl:=Option.some.inj hk'
        obtain ⟨_,cur,e,hb,hl⟩:=ok
        refine ⟨_,(cur.toList.drop j).take n,rfl,?_,(hl.drop j).take n,fun i u hu => ?_⟩
        · have:=hl.1
          simp at hn ⊢
          simp at this
          omega
        · rw [block_cell hb]
          rw [List.getElem?_take] at hu
          split at hu
          · simpa using hu
          · cases hu
    · cases h
  · rename_i o i j
    split at h
    · rename_i cs xs ho
      obtain ⟨rfl,hn⟩:=takeX_eq _ _ _ h
      cases r with
      | oel _ _ _ k hk hr hi =>
        obtain ⟨k',hk',ok⟩:=oi.ok o _ ho
        rw [hk] at hk'
        obtain rfl:=Option.some.inj hk'
        obtain ⟨hx,_,hreal⟩:=ok
        obtain ⟨hm,cur,e,hb,hsz,ht⟩:=hreal hr
        refine ⟨_,((vals cs (xs.getD i (edflt cs))).drop j).take n,rfl,?_,?_,fun q u hu => ?_⟩
        · simp at hn ⊢; omega
        · rw [List.map_take.symm]; exact .vals _
        · rw [block_cell hb]
          rw [List.getElem?_take] at hu
          split at hu
          · rename_i hq
            rw [List.getElem?_drop] at hu
            have hjq:j+q < cs.length:=by
              have:=(List.getElem?_eq_some_iff.1 hu).1
              rwa [vals_length] at this
            rw [← flat_get cs xs i (j+q) (by omega) hjq,← ht,List.getElem?_take,hm] at hu
            split at hu
            · rw [← hm,Nat.add_assoc,hm]
              simpa using hu
            · cases hu
          · cases hu
    · cases h
  · rename_i us0
    obtain ⟨rfl,hn⟩:=takeX_eq _ _ _ h
    cases r with
    | rel _ ad hc =>
      refine ⟨ad,us0.take n,rfl,by simp at hn ⊢; omega,by rw [← List.map_take]; exact .vals _,fun j u hu => ?_⟩
      rw [List.getElem?_take] at hu
      split at hu
      · exact cellS_world oi.st (hc j u hu)
      · cases hu
  · rename_i us0
    obtain ⟨rfl,hn⟩:=takeX_eq _ _ _ h
    cases r with
    | rpt _ vs ad hl hR hv =>
      refine ⟨ad,vs.take n,rfl,by simp; omega,RL.take n ⟨hl,hR⟩,fun j u hu => ?_⟩
      rw [List.getElem?_take] at hu
      split at hu
      · exact cellS_world oi.st (hv j u hu)
      · cases hu
  · cases h
theorem ofCells_R{ti:TI}{us:List AV}{vs:List Value}{r:AV}(h:ofCells ti us=some r)(hl:RL S σ us vs) :
    (ti.isAgg=true∧R S σ r (.agg vs.toArray))∨(ti.isAgg=false ∧ ∃ v,vs = [v]∧R S σ r v):=by
  unfold ofCells at h
  split at h
  · rename_i ha
    simp at h; subst h
    exact .inl ⟨ha,.agg us vs hl.1 hl.2⟩
  · rename_i ha
    split at h
    · simp at h; subst h
      obtain ⟨v,vs',rfl,hv,ht⟩:=hl.uncons
      have:vs' = []:=by have:=ht.1; simp at this; exact List.eq_nil_of_length_eq_zero this.symm
      subst this
      exact .inr ⟨by simpa using ha,v,rfl,hv⟩
    · cases h
theorem run_loadVar_cells{t:Nat}{ti:TI}(row:RowOK P t ti)(ad:Addr)(vs:List Value)(hl:vs.length=ti.size)(hc : ∀ j u,vs[j]? = some u→w.cell? (ad.add j)=some u) :
    (ti.isAgg=true→(loadVar t ad).run P w = .ok (.agg vs.toArray) w)∧(∀ v,ti.isAgg=false→vs = [v]→(loadVar t ad).run P w = .ok v w):=by
  constructor
  · intro ha
    have:=run_loadCells_list (P:=P) w ad vs hc
    simp [loadVar,Sem.run_bind,row.isAgg w,ha,row.sizeOf w,← hl,this]
  · intro v ha hv
    subst hv
    have:=hc 0 v rfl
    simp [Addr.add] at this
    simp [loadVar,Sem.run_bind,row.isAgg w,ha,run_load,this]
theorem load_ok(oi:OI S σ ob w){t:Nat}{ti:TI}(row:RowOK P t ti){av:AV}{us:List AV}{r:AV}(h:readAt ob ti.size av=some us)(h':ofCells ti us=some r){v:Value}(hv:R S σ av v) :
    ∃ u,(Instr.loadAt t v).run P w = .ok u w∧R S σ r u:=by
  obtain ⟨ad,vs,rfl,hl,hR,hc⟩:=readAt_ok oi h hv
  have hrun:=run_loadVar_cells row ad vs hl hc
  rcases ofCells_R h' hR with ⟨ha,hr⟩ | ⟨ha,u,rfl,hr⟩
  · exact ⟨_,by simp [Instr.loadAt,Instr.sureAddr,hrun.1 ha],hr⟩
  · exact ⟨u,by simp [Instr.loadAt,Instr.sureAddr,hrun.2 u ha rfl],hr⟩
end
end Go.Proofs.YtkjnijddbiconaaGreatDoor.Ev

namespace Go.Proofs.YtkjnijddbiconaaGreatDoor.Ev
open Go
set_option linter.unusedVariables false
set_option linter.unusedSimpArgs false
variable {P:Program} {E:Env} {S:Sb} {σ:Sg} {l:List AV} {a:Act} {ob:Ob} {w:World}
def own(σ:Sg)(ob:Ob)(b:Nat):Prop := ∃ o x k,ob o=some x∧σ o=some k∧k.real=true∧k.b=b
structure Does (S:Sb) (σ:Sg) (ob:Ob) (w:World) (nb:Nat) (v:AV) (u:List (Nat × Option AO)) (v':Value) (w':World) (σ':Sg):Prop where
  r:R S σ' v v'
  oi:OI S σ' (updF ob u) w'
  ext : ∀ o k,σ o=some k→σ' o=some k
  new : ∀ o,σ' o≠none→σ o≠none∨(nb≤o∧o < nb+1000)
  tl:Tail w w'
  fr : ∀ b,b < w.heap.size → ¬ own σ ob b→w'.heap[b]? = w.heap[b]?
  src : ∀ b,own σ' (updF ob u) b→own σ ob b∨w.heap.size≤b
theorem Does.pure(oi:OI S σ ob w)(nb:Nat){v:AV}{v':Value}(r:R S σ v v'):Does S σ ob w nb v [] v' w σ:=⟨r,oi,fun _ _ h=>h,fun _ h => .inl h,.refl w,fun _ _ _=>rfl,fun _ h => .inl h⟩
theorem objOK.at{w w':World}{σ':Sg}{k:Bk}{x:AO}(h:objOK S σ w k x)(hσ : ∀ o k,σ o=some k→σ' o=some k)(hw:k.real=true→w'.heap[k.b]? = w.heap[k.b]?):objOK S σ' w' k x:=by
  cases x with
  | row cs xs =>
    obtain ⟨h1,h2,h3⟩:=h
    exact ⟨h1,h2,fun hr=>by rw [hw hr]; exact h3 hr⟩
  | box us =>
    obtain ⟨h1,cur,e,h2,h3⟩:=h
    exact ⟨h1,cur,e,by rw [hw h1]; exact h2,h3.mono hσ fun _ _ h=>h⟩
theorem objOK.lt{k:Bk}{x:AO}(h:objOK S σ w k x)(hr:k.real=true):k.b < w.heap.size:=by
  cases x with
  | row cs xs=>obtain ⟨_,cur,e,hb,_⟩:=h.2.2 hr; exact (Array.getElem?_eq_some_iff.1 hb).1
  | box us=>obtain ⟨_,cur,e,hb,_⟩:=h; exact (Array.getElem?_eq_some_iff.1 hb).1
theorem OI.sub{ob':Ob}(oi:OI S σ ob w)(h : ∀ o x,ob' o=some x→ob o=some x):OI S σ ob' w :=
  ⟨fun o x ho=>oi.ok o x (h o x ho),fun o o' x x' k k' ho ho'=>oi.inj o o' x x' k k' (h _ _ ho) (h _ _ ho'),oi.st,fun o x k ho=>oi.sep o x k (h _ _ ho),oi.tab⟩
theorem OI.put(oi:OI S σ ob w){nb:Nat}{x:AO}{k:Bk}{w':World}(hn:σ nb=none∨σ nb=some k)
    (hw : ∀ b,b < w.heap.size→(k.real=true→b≠k.b)→w'.heap[b]? = w.heap[b]?)
    (hsep:k.real=true → ∀ o x' k',ob o=some x'→o≠nb→σ o=some k'→k'.real=true→k'.b≠k.b)
    (hS:k.real=true→S k.b=none) (ok:objOK S (fun p=>if p=nb then some k else σ p) w' k x) :
    OI S (fun p=>if p=nb then some k else σ p) (fun p=>if p=nb then some x else ob p) w':=by
  have hσ : ∀ o k',σ o=some k'→(fun p=>if p=nb then some k else σ p) o=some k':=by
    intro o k' h
    by_cases e:o=nb
    · subst e; rcases hn with hn | hn<;>simp_all
    · simp [e,h]
  refine ⟨?_,?_,?_,?_,oi.tab⟩
  · intro o y ho
    by_cases e:o=nb
    · subst e; simp at ho; subst ho; exact ⟨k,by simp,ok⟩
    · simp only [e,if_false] at ho ⊢
      obtain ⟨k',hk',hok⟩:=oi.ok o y ho
      exact ⟨k',hk',hok.at hσ fun hr=>hw _ (hok.lt hr) fun hr'=>hsep hr' o y k' ho e hk' hr⟩
  · intro o o' y y' k1 k2 ho ho' h1 h2 r1 r2 hb
    by_cases e:o=nb<;>by_cases e':o'=nb
    · rw [e,e']
    · subst e
      have g1:k=k1:=by simpa using h1
      have g2:σ o'=some k2:=by simpa [e'] using h2
      have g3:ob o'=some y':=by simpa [e'] using ho'
      subst g1
      exact absurd hb.symm (hsep r1 o' y' k2 g3 e' g2 r2)
    · subst e'
      have g1:k=k2:=by simpa using h2
      have g2:σ o=some k1:=by simpa [e] using h1
      have g3:ob o=some y:=by simpa [e] using ho
      subst g1
      exact absurd hb (hsep r2 o y k1 g3 e g2 r1)
    · have g2:σ o=some k1:=by simpa [e] using h1
      have g3:ob o=some y:=by simpa [e] using ho
      have g4:σ o'=some k2:=by simpa [e'] using h2
      have g5:ob o'=some y':=by simpa [e'] using ho'
      exact oi.inj o o' y y' k1 k2 g3 g5 g2 g4 r1 r2 hb
  · intro b y hb
    have hy:=oi.st b y hb
    rw [hw b (Array.getElem?_eq_some_iff.1 hy).1 fun hr e=>by rw [e,hS hr] at hb; cases hb]
    exact hy
  · intro o y k1 ho h1 r1
    by_cases e:o=nb
    · subst e; simp at h1; subst h1; exact hS r1
    · simp only [e,if_false] at *
      exact oi.sep o y k1 ho h1 r1
theorem OI.set(oi:OI S σ ob w){o:Nat}{x x':AO}{k:Bk}{w':World}(ho:ob o=some x)(hk:σ o=some k)(hr:k.real=true)
    (hw : ∀ b,b < w.heap.size→b≠k.b→w'.heap[b]? = w.heap[b]?) (ok:objOK S σ w' k x'):OI S σ (fun p=>if p=o then some x' else ob p) w':=by
  have e:(fun p=>if p=o then some k else σ p)=σ:=by funext p; by_cases h:p=o<;>simp [h,hk]
  have:=oi.put (nb:=o) (x:=x') (k:=k) (w':=w') (.inr hk) (fun b h h'=>hw b h (h' hr))
    (fun _ p y k' hp hne hk' hr' hb=>hne (oi.inj p o y x k' k hp ho hk' hk hr' hr hb)) (fun _=>oi.sep o x k ho hk hr) (by rw [e]; exact ok)
  rwa [e] at this
theorem OI.fresh(oi:OI S σ ob w){nb:Nat}{x:AO}{k:Bk}{cur:Array Value}{e:TypeId}(hn:σ nb=none)(hk:k.b=w.heap.size)
    (ok:objOK S (fun p=>if p=nb then some k else σ p) (w.alloc (.cells cur e)) k x) :
    OI S (fun p=>if p=nb then some k else σ p) (fun p=>if p=nb then some x else ob p) (w.alloc (.cells cur e)):=by
  refine oi.put (.inl hn) (fun b hb _=>heap_alloc_old w _ hb) (fun _ o y k' ho _ hk' hr hb => ?_) (fun _ => ?_) ok
  · obtain ⟨k'',hk'',hok⟩:=oi.ok o y ho
    rw [hk'] at hk''
    obtain rfl:=Option.some.inj hk''
    have:=hok.lt hr
    omega
  · cases hS:S k.b with
    | none=>rfl
    | some y=>have:=(Array.getElem?_eq_some_iff.1 (oi.st _ _ hS)).1; omega
theorem Tail.alloc(w:World)(o:Obj):Tail w (w.alloc o):=⟨rfl,rfl,rfl,by simp⟩
theorem Tail.setRow(w:World)(g:Nat)(cs:Array Value):Tail w (w.setRow g cs):=⟨rfl,rfl,rfl,by simp⟩
theorem Tail.drew(w:World):Tail w w.drew:=⟨rfl,rfl,rfl,Nat.le_refl _⟩
theorem ext_put{nb:Nat}{k:Bk}(hn:σ nb=none∨σ nb=some k) : ∀ o k',σ o=some k'→(fun p=>if p=nb then some k else σ p) o=some k':=by
  intro o k' h
  by_cases e:o=nb
  · subst e; rcases hn with hn | hn<;>simp_all
  · simp [e,h]
theorem new_put{nb:Nat}{k:Bk} : ∀ o,(fun p=>if p=nb then some k else σ p) o≠none→σ o≠none∨(nb≤o∧o < nb+1000):=by
  intro o h
  by_cases e:o=nb
  · subst e; right; omega
  · left; simpa [e] using h
theorem own_put{nb:Nat}{k:Bk}{x:AO} : ∀ b,own (fun p=>if p=nb then some k else σ p) (fun p=>if p=nb then some x else ob p) b→own σ ob b∨(k.real=true∧k.b=b):=by
  rintro b ⟨p,y,k',hp,hk,hr,hb⟩
  by_cases e:p=nb
  · subst e; simp at hk; subst hk; exact .inr ⟨hr,hb⟩
  · simp [e] at hp hk; exact .inl ⟨p,y,k',hp,hk,hr,hb⟩
theorem own_sub{ob':Ob}(h : ∀ o x,ob' o=some x→ob o=some x){b:Nat}(hb:own σ ob' b):own σ ob b:=by
  obtain ⟨o,x,k,ho,hk,hr,hb⟩:=hb
  exact ⟨o,x,k,h o x ho,hk,hr,hb⟩
theorem Does.alloc(oi:OI S σ ob w){nb:Nat}{x:AO}{k:Bk}{cur:Array Value}{e:TypeId}(hn:σ nb=none)(hk:k.b=w.heap.size){v:AV}{v':Value}
    (r:R S (fun p=>if p=nb then some k else σ p) v v') (ok:objOK S (fun p=>if p=nb then some k else σ p) (w.alloc (.cells cur e)) k x) :
    Does S σ ob w nb v [(nb,some x)] v' (w.alloc (.cells cur e)) (fun p=>if p=nb then some k else σ p) :=
  ⟨r,oi.fresh hn hk ok,ext_put (.inl hn),new_put,.alloc _ _,fun b hb _=>heap_alloc_old w _ hb,fun b h=>(own_put b h).imp id fun h=>by omega⟩
theorem one_cell{a:AV}{v:Value}(h:one a=true)(r:R S σ a v):v.oneCell'=true:=by
  cases r<;>first | rfl | assumption | (simp [one] at h; done) | skip
  · cases v<;>first | rfl | (simp [one] at h; done)
theorem oneCell_cells{v:Value}(h:v.oneCell'=true):v.cells = #[v]:=by cases v<;>first | rfl | (simp [Value.oneCell'] at h; done)
theorem allOne_cells : ∀ {us:List AV} {vs:List Value},allOne us=true→RL S σ us vs → ∀ v∈vs,v.oneCell'=true
  | [],vs,_,hl,v,hv=>by
    have:vs = []:=List.eq_nil_of_length_eq_zero (by have:=hl.1; simpa using this.symm)
    subst this; simp at hv
  | a :: us,vs,h,hl,v,hv=>by
    obtain ⟨u,us',rfl,h1,h2⟩:=hl.uncons
    simp [allOne] at h
    rcases List.mem_cons.1 hv with rfl | hv
    · exact one_cell h.1 h1
    · exact allOne_cells h.2 h2 v hv
theorem cellsOf_ok{a:AV}{us:List AV}{v:Value}(h:cellsOf a=some us)(r:R S σ a v):RL S σ us v.cells.toList ∧ ∀ u∈v.cells.toList,u.oneCell'=true:=by
  unfold cellsOf at h
  split at h
  · rename_i vs
    split at h
    · rename_i ho
      simp at h; subst h
      cases r with
      | agg _ ws hl hr=>exact ⟨⟨hl,hr⟩,allOne_cells ho ⟨hl,hr⟩⟩
    · cases h
  · split at h
    · rename_i ho
      simp at h; subst h
      have hv:=one_cell ho r
      rw [oneCell_cells hv]
      exact ⟨.cons r .nil,fun u hu=>by simp at hu; subst hu; exact hv⟩
    · cases h
theorem flatAVs_RL : ∀ {us:List AV} {vs ws:List Value},flatAVs us=some vs→RL S σ us ws→ws=vs
  | [],vs,ws,h,hl=>by
    simp [flatAVs] at h; subst h
    exact List.eq_nil_of_length_eq_zero (by have:=hl.1; simpa using this.symm)
  | a :: us,vs,ws,h,hl=>by
    obtain ⟨u,ws',rfl,h1,h2⟩:=hl.uncons
    simp only [flatAVs] at h
    split at h
    · rename_i v hv
      split at h
      · rename_i vs' hvs
        simp at h; subst h
        rw [flatAVs_RL hvs h2]
        cases a<;>simp [flatAV] at hv
        subst hv
        cases h1
        rfl
      · cases h
    · cases h
theorem own_set{o:Nat}{x x':AO}(ho:ob o=some x) : ∀ b,own σ (updF ob [(o,some x')]) b→own σ ob b:=by
  rintro b ⟨p,y,k,hp,hk,hr,hb⟩
  by_cases e:p=o
  · subst e; exact ⟨p,x,k,ho,hk,hr,hb⟩
  · simp [updF,e] at hp; exact ⟨p,y,k,hp,hk,hr,hb⟩
theorem take_drop_mid{α:Type}(A O B r vs:List α)(j:Nat)(h:j+vs.length≤O.length) :
    (A++O++B++r).take (A.length+j)++vs++(A++O++B++r).drop (A.length+j+vs.length)=A++(O.take j++vs++O.drop (j+vs.length))++B++r:=by
  have h1:(A++O++B++r).take (A.length+j)=A++O.take j:=by
    rw [List.append_assoc,List.append_assoc,List.take_length_add_append,List.take_append_of_le_length (by omega)]
  have h2:(A++O++B++r).drop (A.length+j+vs.length)=O.drop (j+vs.length)++(B++r):=by
    rw [List.append_assoc,List.append_assoc,Nat.add_assoc,List.drop_append,List.drop_eq_nil_of_le (by omega),List.nil_append,Nat.add_sub_cancel_left,List.drop_append_of_le_length (by omega)]
  rw [h1,h2]
  simp [List.append_assoc]
theorem fits_ok : ∀ (cs:List CK) (j:Nat) (vs:List Value) (e:Elem cs),fits cs j vs=true→spliceX j vs (vals cs e)=some (vals cs (putV cs j vs e))
  | [],0,[],e,_=>rfl
  | c :: cs,0,[],e,_=>rfl
  | [],0,v :: vs,e,h=>by cases h
  | c :: cs,0,v :: vs,e,h=>by
    unfold fits at h
    split at h
    · rename_i y hy
      have ih:=fits_ok cs 0 vs e.2 h
      show spliceX 0 (v :: vs) (c.val e.1 :: vals cs e.2)=some (c.val (match c.ofVal v with | some y=>y | none=>e.1) :: vals cs (putV cs 0 vs e.2))
      have e1:=ofVal_val c v y hy
      simp only [hy,spliceX,ih]
      rw [← e1]
    · cases h
  | c :: cs,j+1,vs,e,h=>by
    have ih:=fits_ok cs j vs e.2 (by simpa [fits] using h)
    show spliceX (j+1) vs (c.val e.1 :: vals cs e.2)=some (c.val e.1 :: vals cs (putV cs j vs e.2))
    rw [spliceX,ih]
  | [],j+1,vs,e,h=>by simp [fits] at h
theorem write_row(oi:OI S σ ob w){ns:List AV}{o i j:Nat}{cs:List CK}{es:List (Elem cs)}(ho:ob o=some (.row cs es)){vs ws:List Value}{e:Elem cs}(hvs:flatAVs ns=some vs)
    (hws:spliceX j vs (vals cs (es.getD i (edflt cs)))=some ws) (hev:ws=vals cs e) {v:Value} (r:R S σ (.oel o i j) v) {xs:List Value} (hl:RL S σ ns xs) (h1 : ∀ x∈xs,x.oneCell'=true) :
    ∃ ad w',v = .pointer (some ad)∧(storeCells ad xs).run P w = .ok () w'∧OI S σ (updF ob [(o,some (.row cs (es.set i e)))]) w'∧Tail w w'∧(∀ b,b < w.heap.size → ¬ own σ ob b→w'.heap[b]? = w.heap[b]?) ∧
      (∀ b,own σ (updF ob [(o,some (.row cs (es.set i e)))]) b→own σ ob b):=by
  obtain rfl:=flatAVs_RL hvs hl
  obtain ⟨hn,hws'⟩:=spliceX_eq _ _ _ _ hws
  cases r with
  | oel _ _ _ k hk hr hi =>
    obtain ⟨k',hk',ok⟩:=oi.ok o _ ho
    rw [hk] at hk'
    obtain rfl:=Option.some.inj hk'
    obtain ⟨hx,_,hreal⟩:=ok
    obtain ⟨hm,cur,et,hb,hsz,ht⟩:=hreal hr
    have hi':i < es.length:=by omega
    have hfl:=flat_length cs es
    have hcs:(flat cs es).length≤cur.size:=by
      have:=congrArg List.length ht
      simp at this
      omega
    -- the block's cells, in pieces
    have hO:((flat cs es).drop (i * cs.length)).take cs.length=vals cs (es.getD i (edflt cs)):=flat_at cs es i hi'
    have hpieces:flat cs es=(flat cs es).take (i * cs.length)++vals cs (es.getD i (edflt cs))++(flat cs es).drop ((i+1) * cs.length):=by
      rw [← hO,Nat.add_mul,Nat.one_mul,← List.drop_drop,List.append_assoc,List.take_append_drop,List.take_append_drop]
    have hcur:cur.toList=(flat cs es).take (i * cs.length)++vals cs (es.getD i (edflt cs))++(flat cs es).drop ((i+1) * cs.length)++cur.toList.drop (flat cs es).length:=by
      rw [← hpieces]
      conv=>lhs; rw [← List.take_append_drop (flat cs es).length cur.toList,ht]
    have hA:((flat cs es).take (i * cs.length)).length=i * cs.length:=by
      rw [List.length_take,hfl]
      exact Nat.min_eq_left (Nat.mul_le_mul_right _ (Nat.le_of_lt hi'))
    have hval:(vals cs (es.getD i (edflt cs))).length=cs.length:=vals_length _ _
    have hfit:i * k.m+j+xs.length≤cur.size:=by
      have:(i+1) * cs.length≤es.length * cs.length:=Nat.mul_le_mul_right _ hi'
      rw [Nat.add_mul] at this
      rw [← hm]
      omega
    have hrun:=run_storeCells_at (P:=P) k.b (i * k.m+j) et xs 0 cur w hb (by simpa using hfit) h1
    simp only [Nat.add_zero] at hrun
    refine ⟨_,_,rfl,hrun,?_,.setRow _ _ _,fun b _ hno=>setRow_other w k.b b _ fun e=>hno ⟨o,_,k,ho,hk,hr,e.symm⟩,own_set ho⟩
    have hnew:cur.toList.take (i * k.m+j)++xs++cur.toList.drop (i * k.m+j+xs.length)=flat cs (es.set i e)++cur.toList.drop (flat cs es).length:=by
      rw [flat_set cs es i e hi',← hev,hws',hcur,← hm]
      have:=take_drop_mid ((flat cs es).take (i * cs.length)) (vals cs (es.getD i (edflt cs))) ((flat cs es).drop ((i+1) * cs.length)) (cur.toList.drop (flat cs es).length) xs j (by omega)
      rw [hA] at this
      rw [← hcur] at this ⊢
      exact this
    refine oi.set ho hk hr (fun b _ hne=>setRow_other w k.b b _ hne) ⟨by simpa using hx,fun hf=>by simp [hr] at hf,fun _=>⟨hm,_,et,setRow_heap w k.b cur _ et _ hb,?_,?_⟩⟩
    · rw [hnew,← hsz]
      have hl1:=flat_length cs (es.set i e)
      rw [List.length_set] at hl1
      simp
      rw [hl1,← hfl]
      omega
    · simp only [List.toList_toArray]
      rw [hnew]
      exact List.take_left
theorem writeAt_ok(oi:OI S σ ob w){ns:List AV}{av:AV}{u:List (Nat × Option AO)}(h:writeAt ob ns av=some u){v:Value}(r:R S σ av v){xs:List Value}(hl:RL S σ ns xs)
    (h1 : ∀ x∈xs,x.oneCell'=true) : ∃ ad w',v = .pointer (some ad)∧(storeCells ad xs).run P w = .ok () w'∧OI S σ (updF ob u) w'∧Tail w w'∧(∀ b,b < w.heap.size → ¬ own σ ob b→w'.heap[b]? = w.heap[b]?) ∧
      (∀ b,own σ (updF ob u) b→own σ ob b):=by
  unfold writeAt at h
  split at h
  · rename_i o j
    split at h
    · rename_i us ho
      split at h
      · rename_i us' hs
        simp at h; subst h
        obtain ⟨hn,rfl⟩:=spliceX_eq _ _ _ _ hs
        cases r with
        | ptr _ _ k hk hr =>
          obtain ⟨k',hk',ok⟩:=oi.ok o _ ho
          rw [hk] at hk'
          obtain rfl:=Option.some.inj hk'
          obtain ⟨_,cur,e,hb,hc⟩:=ok
          have hlen:=hl.1
          have hcl:=hc.1
          have hrun:=run_storeCells_at (P:=P) k.b j e xs 0 cur w hb (by simp at hcl; omega) h1
          simp only [Nat.add_zero] at hrun
          refine ⟨_,_,rfl,hrun,?_,.setRow _ _ _,fun b _ hno=>setRow_other w k.b b _ fun e=>hno ⟨o,_,k,ho,hk,hr,e.symm⟩,own_set ho⟩
          refine oi.set ho hk hr (fun b _ hne=>setRow_other w k.b b _ hne) ⟨hr,_,e,setRow_heap w k.b cur _ e _ hb,?_⟩
          have:=(hc.take j).append (hl.append (hc.drop (j+ns.length)))
          rw [hlen] at this
          simpa [List.append_assoc,hlen] using this
      · cases h
    · cases h
  · rename_i o i j
    split at h
    · rename_i cs es ho
      split at h
      · rename_i vs hvs
        split at h
        · split at h
          · rename_i hf
            simp at h; subst h
            exact write_row (P:=P) oi ho hvs (fits_ok cs j vs _ hf) rfl r hl h1
          · cases h
        · split at h
          · rename_i ws hws
            split at h
            · rename_i e he
              simp at h; subst h
              exact write_row (P:=P) oi ho hvs hws (ofVals_vals cs ws e he) r hl h1
            · cases h
          · cases h
      · cases h
    · cases h
  · cases h
theorem store_ok(oi:OI S σ ob w){t:Nat}{ti:TI}(row:RowOK P t ti){av xv:AV}{ns:List AV}{u:List (Nat × Option AO)}(hx:cellsOf xv=some ns)(hn:ns.length=ti.size)
    (h:writeAt ob ns av=some u) {v x:Value} (hv:R S σ av v) (hxv:R S σ xv x) (nb:Nat) : ∃ w',(Instr.storeAt t v x).run P w = .ok () w'∧Does S σ ob w nb (.val undef) u undef w' σ:=by
  obtain ⟨hl,h1⟩:=cellsOf_ok hx hxv
  obtain ⟨ad,w',rfl,hr,hoi,htl,hfr,hsrc⟩:=writeAt_ok (P:=P) oi h hv hl h1
  have hsz:x.cells.size=ti.size:=by have:=hl.1; simp at this; omega
  exact ⟨w',by simp [Instr.storeAt,Instr.sureAddr,storeVar,row.sizeOf w,hsz,hr],.val _,hoi,fun _ _ h=>h,fun _ h => .inl h,htl,hfr,fun b h => .inl (hsrc b h)⟩
end Go.Proofs.YtkjnijddbiconaaGreatDoor.Ev

namespace Go.Proofs.YtkjnijddbiconaaGreatDoor.Ev
open Go
set_option linter.unusedVariables false
set_option linter.unusedSimpArgs false
variable {P:Program} {E:Env} {S:Sb} {σ:Sg} {l:List AV} {a:Act} {ob:Ob} {w:World}
theorem castE_eq{cs cs':List CK}{xs:List (Elem cs')}{ys:List (Elem cs)}(h:castE cs cs' xs=some ys) : ∃ e:cs'=cs,e ▸ xs=ys:=by
  unfold castE at h
  split at h
  · rename_i e; exact ⟨e,by simpa using h⟩
  · cases h
theorem castE_same{cs:List CK}{xs ys:List (Elem cs)}(h:castE cs cs xs=some ys):xs=ys:=by
  simpa [castE] using h
theorem elemsX_ok(cs:List CK) : ∀ (n:Nat) (us:List AV) (xs:List (Elem cs)) (vs:List Value),elemsX cs n us=some xs→RL S σ us vs →
    xs.length=n∧flat cs xs=vs.take (n * cs.length)
  | 0,us,xs,vs,h,_=>by simp [elemsX] at h; subst h; simp [flat]
  | n+1,us,xs,vs,h,hl=>by
    simp only [elemsX] at h
    split at h
    · rename_i q hq
      split at h
      · rename_i e he
        split at h
        · rename_i r hr
          simp at h; subst h
          obtain ⟨rfl,hle⟩:=takeX_eq _ _ _ hq
          obtain ⟨h1,h2⟩:=elemsX_ok cs n _ _ _ hr (hl.drop cs.length)
          refine ⟨by simp [h1],?_⟩
          unfold elemOf at he
          split at he
          · rename_i ws hws
            have:=flatAVs_RL hws (hl.take cs.length)
            have hv:=ofVals_vals cs ws e he
            rw [flat_cons,h2,← hv,← this,Nat.add_mul,Nat.one_mul,Nat.add_comm,List.take_add]
          · cases he
        · cases h
      · cases h
    · cases h
theorem elems_ok(oi:OI S σ ob w){cs:List CK}{av:AV}{ys:List (Elem cs)}(h:elems ob cs av=some ys){v:Value}(r:R S σ av v) :
    ∃ A c,v = .slice A ys.length c∧ys.length≤c ∧ ∀ j u,(flat cs ys)[j]? = some u → ∃ ad,A=some ad∧w.cell? (ad.add j)=some u:=by
  unfold elems at h
  split at h
  · simp at h; subst h
    cases r
    exact ⟨none,0,rfl,Nat.le_refl _,fun j u hu=>by simp [flat] at hu⟩
  · rename_i cs' xs
    obtain ⟨hce,_⟩:=castE_eq h
    subst hce
    obtain rfl:=castE_same h
    cases r with
    | rsl _ _ A c hc hh=>exact ⟨A,c,rfl,hc,fun j u hu=>let ⟨ad,e,h⟩:=hh j u hu; ⟨ad,e,cellS_world oi.st h⟩⟩
  · rename_i o
    split at h
    · rename_i cs' xs ho
      obtain ⟨hce,_⟩:=castE_eq h
      subst hce
      obtain rfl:=castE_same h
      obtain ⟨k',hk',hx,hv,hreal⟩:=oi.ok o _ ho
      cases r with
      | ows _ k cap hk hr h1 h2 =>
        rw [hk] at hk'
        obtain rfl:=Option.some.inj hk'
        obtain ⟨hm,cur,e,hb,hsz,ht⟩:=hreal hr
        refine ⟨_,cap,by rw [hx],by omega,fun j u hu=>⟨_,rfl,?_⟩⟩
        rw [block_cell hb,Nat.zero_add]
        rw [← ht,List.getElem?_take] at hu
        split at hu
        · simpa using hu
        · cases hu
      | ows0 _ k x hk hr hn =>
        rw [hk] at hk'
        obtain rfl:=Option.some.inj hk'
        have:=hv hr
        subst this
        exact ⟨x,0,rfl,Nat.le_refl _,fun j u hu=>by simp [flat] at hu⟩
    · cases h
  · rename_i o lo n
    split at h
    · rename_i cs' xs ho
      obtain ⟨hce,_⟩:=castE_eq h
      subst hce
      obtain rfl:=castE_same h
      obtain ⟨k',hk',hx,hv,hreal⟩:=oi.ok o _ ho
      cases r with
      | osl _ _ _ k cap hk hr h0 h1 h2 =>
        rw [hk] at hk'
        obtain rfl:=Option.some.inj hk'
        obtain ⟨hm,cur,e,hb,hsz,ht⟩:=hreal hr
        have hl:((xs.drop lo).take n).length=n:=by simp; omega
        refine ⟨_,cap,by rw [hl],by rw [hl]; exact h1,fun j u hu=>⟨_,rfl,?_⟩⟩
        rw [block_cell hb,← hm]
        rw [flat_take,flat_drop,List.getElem?_take] at hu
        split at hu
        · rw [List.getElem?_drop,← ht,List.getElem?_take] at hu
          split at hu
          · simpa using hu
          · cases hu
        · cases hu
      | osl0 _ _ k x hk h0=>exact ⟨x,0,by simp,by simp,fun j u hu=>by simp [flat] at hu⟩
    · cases h
  · rename_i o j cs' n
    split at h
    · rename_i us ho
      split at h
      · rename_i xs hxs
        obtain ⟨hce,_⟩:=castE_eq h
        subst hce
        obtain rfl:=castE_same h
        obtain ⟨k',hk',hbox⟩:=oi.ok o _ ho
        cases r with
        | bsl _ _ _ _ k c hk hr hc =>
          rw [hk] at hk'
          obtain rfl:=Option.some.inj hk'
          obtain ⟨_,cur,e,hb,hl⟩:=hbox
          obtain ⟨h1,h2⟩:=elemsX_ok _ _ _ _ _ hxs (hl.drop j)
          refine ⟨_,c,by rw [h1],by omega,fun q u hu=>⟨_,rfl,?_⟩⟩
          rw [block_cell hb]
          rw [h2,List.getElem?_take] at hu
          split at hu
          · simpa using hu
          · cases hu
      · cases h
    · cases h
  · cases h
theorem lenAV_ok(oi:OI S σ ob w){av:AV}{n:Nat}(h:lenAV ob av=some n){v:Value}(r:R S σ av v) :
    (∃ A c,v = .slice A n c∧n≤c)∨(∃ s,av = .val (.string s)∧v = .string s∧n=s.size):=by
  unfold lenAV at h
  split at h
  · simp at h; subst h; cases r; exact .inl ⟨_,_,rfl,Nat.le_refl _⟩
  · simp at h; subst h; cases r with | rsl _ _ A c hc _=>exact .inl ⟨A,c,rfl,hc⟩
  · rename_i o
    split at h
    · rename_i cs xs ho
      simp at h; subst h
      obtain ⟨k',hk',hx,hv,_⟩:=oi.ok o _ ho
      cases r with
      | ows _ k cap hk hr h1 h2 =>
        rw [hk] at hk'
        obtain rfl:=Option.some.inj hk'
        exact .inl ⟨_,cap,by rw [hx],by omega⟩
      | ows0 _ k x hk hr hn =>
        rw [hk] at hk'
        obtain rfl:=Option.some.inj hk'
        rw [hv hr]
        exact .inl ⟨x,0,rfl,Nat.le_refl _⟩
    · cases h
  · simp at h; subst h
    cases r with
    | osl _ _ _ k cap hk hr h0 h1 h2=>exact .inl ⟨_,cap,rfl,h1⟩
    | osl0 _ _ k x hk h0=>exact .inl ⟨x,0,rfl,Nat.le_refl _⟩
  · simp at h; subst h
    cases r with | bsl _ _ _ _ k c hk hr hc=>exact .inl ⟨_,c,rfl,hc⟩
  · simp at h; subst h
    cases r
    exact .inr ⟨_,rfl,rfl,rfl⟩
  · cases h
theorem vals_one : ∀ (cs:List CK) (y:Elem cs) (u:Value),u∈vals cs y→u.oneCell'=true
  | [],y,u,hu=>by simp [vals] at hu
  | c :: cs,y,u,hu=>by
    simp [vals] at hu
    rcases hu with rfl | hu
    · cases c<;>rfl
    · exact vals_one cs _ u hu
theorem run_append_fit(t ty e:TypeId)(i:TypeInfo)(ht:P.underlying t=some (.slice e))(hi:P.info? e=some i)(base A:Option Addr)(n cap m c:Nat)(news:List Value){w':World}
    (hnews:(Builtin.firstCells i.size m (.slice A m c)).run P w = .ok news.toArray w) (hroom:n+m≤cap)
    (hst : ∀ ad,base=some ad→(storeCells (ad.add (n * i.size)) news).run P w = .ok () w') (hno:base=none→w'=w) :
    (Builtin.append_ #[t,t] ty #[.slice base n cap,.slice A m c]).run P w = .ok (.slice base (n+m) cap) w':=by
  cases base with
  | none =>
    obtain rfl:=hno rfl
    simp [Builtin.append_,run_underlying ht,sizeOf,typeInfo,hi,Builtin.lenOf,hroom,hnews]
  | some ad =>
    have:=hst ad rfl
    simp [Builtin.append_,run_underlying ht,sizeOf,typeInfo,hi,Builtin.lenOf,hroom,hnews,this]
theorem run_append_new(t ty e:TypeId)(i:TypeInfo)(z:Value)(ht:P.underlying t=some (.slice e))(hi:P.info? e=some i)(hz:i.zero=some z)(base A:Option Addr)(n cap m c:Nat)(olds news:List Value)
    (hnews:(Builtin.firstCells i.size m (.slice A m c)).run P w.drew = .ok news.toArray w.drew) (holds:(Builtin.firstCells i.size n (.slice base n cap)).run P w.drew = .ok olds.toArray w.drew)
    (hg:cap < n+m) (h63:n+m≤9223372036854775807) (hfit:Builtin.nextslicecap (n+m) cap * i.bytes≤281474976710656) :
    (Builtin.append_ #[t,t] ty #[.slice base n cap,.slice A m c]).run P w =
      .ok (.slice (some ⟨w.heap.size,0,none⟩) (n+m) (grownCap w (n+m) cap e))
        (w.drew.alloc (.cells (olds.toArray++news.toArray++Builtin.zeroCells z.cells (grownCap w (n+m) cap e - (n+m))) e)):=by
  have hn : ¬ (n+m≤cap):=by omega
  have h63' : ¬ (9223372036854775807 < ((n:Int)+(m:Int))):=by omega
  have h48' : ¬ (281474976710656 < Builtin.nextslicecap (n+m) cap * i.bytes):=by omega
  simp [Builtin.append_,run_underlying ht,sizeOf,typeInfo,zeroValue,hi,hz,Builtin.lenOf,hn,h63',h48',Question.forced,hnews,holds,newRow,grownCap]
  congr 2
  apply Array.ext'
  simp [List.append_assoc]
theorem firstCells_ok{A:Option Addr}{size n c:Nat}{cs:List Value}(hl:cs.length=n * size)(h : ∀ j u,cs[j]? = some u → ∃ ad,A=some ad∧w.cell? (ad.add j)=some u) :
    (Builtin.firstCells size n (.slice A n c)).run P w = .ok cs.toArray w:=by
  cases A with
  | none =>
    have:cs = []:=by
      cases cs with
      | nil=>rfl
      | cons x xs=>obtain ⟨ad,e,_⟩:=h 0 x rfl; cases e
    subst this
    simp [Builtin.firstCells]
  | some ad =>
    exact run_firstCells_some (P:=P) w size n ad n c cs hl fun j u hu=>by
      obtain ⟨ad',e,hc⟩:=h j u hu
      obtain rfl:=Option.some.inj e
      exact hc
inductive Dest (S:Sb) (σ:Sg) (ob:Ob) (w:World) (cs:List CK):List (Elem cs)→List (Nat × Option AO)→Value→Prop
  | empty (fr:List (Nat × Option AO)) (hf : ∀ p∈fr,p.2=none) (x:Option Addr):Dest S σ ob w cs [] fr (.slice x 0 0)
  | row (o:Nat) (k:Bk) (xs0:List (Elem cs)) (n cap:Nat) (ho:ob o=some (.row cs xs0)) (hk:σ o=some k) (hr:k.real=true) (h0:n≤k.n) (h1:n≤cap) (h2:cap * k.m≤k.sz) :
      Dest S σ ob w cs (xs0.take n) [(o,none)] (.slice (some ⟨k.b,0,none⟩) n cap)
theorem updF_dead(fr:List (Nat × Option AO))(hf : ∀ p∈fr,p.2=none) : ∀ (ob:Ob) (o:Nat) (x:AO),updF ob fr o=some x→ob o=some x:=by
  induction fr with
  | nil=>intro ob o x h; exact h
  | cons p r ih =>
    obtain ⟨q,y⟩:=p
    have hy:y=none:=hf (q,y) (by simp)
    subst hy
    intro ob o x h
    have:=ih (fun p hp=>hf p (by simp [hp])) _ o x h
    by_cases e:o=q<;>simp_all
theorem updF_append(u u':List (Nat × Option AO))(ob:Ob):updF ob (u++u')=updF (updF ob u) u':=by
  induction u generalizing ob with
  | nil=>rfl
  | cons p r ih=>obtain ⟨o,x⟩:=p; simp [updF,ih]
theorem append_dest(oi:OI S σ ob w){t ty e:TypeId}{ti:TI}(ht:P.underlying t=some (.slice e))(row:RowOK P e ti){cs:List CK}(hcs:cs.length=ti.size)(hsz:0 < ti.size)(hby:0 < ti.bytes)
    {xs:List (Elem cs)} {fr:List (Nat × Option AO)} {vs:Value} (hd:Dest S σ ob w cs xs fr vs) {ys:List (Elem cs)} {A:Option Addr} {c:Nat}
    (hy : ∀ j u,(flat cs ys)[j]? = some u → ∃ ad,A=some ad∧w.cell? (ad.add j)=some u) (hb:(xs.length+ys.length) * ti.bytes≤140737488355328) {nb:Nat} (hnb:σ nb=none) :
    ∃ v' w' σ',(Builtin.append_ #[t,t] ty #[vs,.slice A ys.length c]).run P w = .ok v' w'∧Does S σ ob w nb (.ows nb) (fr ++ [(nb,some (.row cs (xs++ys)))]) v' w' σ':=by
  obtain ⟨i,hi,his,hib,hiz⟩:=row.info
  have hly:(flat cs ys).length=ys.length * i.size:=by rw [flat_length,hcs,his]
  have hnews:=firstCells_ok (P:=P) (w:=w) (size:=i.size) (n:=ys.length) (c:=c) hly hy
  have hnews':=firstCells_ok (P:=P) (w:=w.drew) (size:=i.size) (n:=ys.length) (c:=c) hly hy
  have hle:xs.length+ys.length≤9223372036854775807:=by
    have:xs.length+ys.length≤(xs.length+ys.length) * ti.bytes:=Nat.le_mul_of_pos_right _ hby
    omega
  have hzc:ti.zero.cells.size=ti.size:=by
    have:=congrArg List.length row.c
    simp at this
    rw [this,row.z]
  -- a new block
  have grow : ∀ (olds:List Value) (cap:Nat),olds=flat cs xs→cap < xs.length+ys.length → ∀ v' w',
      v' = .slice (some ⟨w.heap.size,0,none⟩) (xs.length+ys.length) (grownCap w (xs.length+ys.length) cap e) →
      w'=w.drew.alloc (.cells (olds.toArray++(flat cs ys).toArray++Builtin.zeroCells ti.zero.cells (grownCap w (xs.length+ys.length) cap e - (xs.length+ys.length))) e) →
      ∀ (hfr : ∀ o x,updF ob fr o=some x→ob o=some x),∃ σ',Does S σ ob w nb (.ows nb) (fr ++ [(nb,some (.row cs (xs++ys)))]) v' w' σ':=by
    intro olds cap ho hcap v' w' hv hw hfr
    have hge:=grownCap_ge w (xs.length+ys.length) cap e
    let cur:=olds.toArray++(flat cs ys).toArray++Builtin.zeroCells ti.zero.cells (grownCap w (xs.length+ys.length) cap e - (xs.length+ys.length))
    have hcur:cur.size=grownCap w (xs.length+ys.length) cap e * ti.size:=by
      show (olds.toArray++(flat cs ys).toArray++Builtin.zeroCells ti.zero.cells (grownCap w (xs.length+ys.length) cap e - (xs.length+ys.length))).size=_
      rw [ho]
      simp only [Array.size_append,List.size_toArray,size_zeroCells,hzc,flat_length,hcs,← Nat.add_mul]
      congr 1
      omega
    let k:Bk:=⟨w.heap.size,xs.length+ys.length,ti.size,cur.size,true⟩
    refine ⟨fun p=>if p=nb then some k else σ p,?_,?_,ext_put (.inl hnb),new_put,?_,?_,?_⟩
    · rw [hv]
      exact .ows nb k _ (by simp) rfl hge (by show _ * ti.size≤cur.size; omega)
    · rw [updF_append,hw]
      have oi':OI S σ (updF ob fr) w.drew:=⟨(oi.sub hfr).ok,(oi.sub hfr).inj,oi.st,(oi.sub hfr).sep,oi.tab⟩
      refine oi'.fresh (k:=k) hnb rfl ⟨by simp [k],fun h=>by simp [k] at h,fun _=>⟨hcs,cur,e,?_,rfl,?_⟩⟩
      · exact heap_alloc_new w.drew _
      · show (cur.toList).take _=_
        have:cur.toList=flat cs (xs++ys)++(Builtin.zeroCells ti.zero.cells (grownCap w (xs.length+ys.length) cap e - (xs.length+ys.length))).toList:=by
          simp [cur,ho,flat_append]
        rw [this]
        exact List.take_left
    · rw [hw]; exact (Tail.drew w).trans (.alloc _ _)
    · intro b hb _; rw [hw]; exact heap_alloc_old w.drew _ hb
    · intro b hb
      rw [updF_append] at hb
      exact (own_put b hb).imp (own_sub hfr) fun h=>by rw [← h.2]; exact Nat.le_refl _
  cases hd with
  | empty _ hf x =>
    by_cases hm:ys.length=0
    · have hys:ys = []:=List.eq_nil_of_length_eq_zero hm
      subst hys
      have hr:=run_append_fit (P:=P) (w:=w) t ty e i ht hi x A 0 0 0 c [] (w':=w) (by simpa [flat] using hnews) (by omega) (fun ad _=>by simp [storeCells]) (fun _=>rfl)
      let k:Bk:=⟨0,0,0,0,false⟩
      refine ⟨_,_,fun p=>if p=nb then some k else σ p,hr,.ows0 nb k x (by simp) rfl rfl,?_,ext_put (.inl hnb),new_put,.refl w,fun _ _ _=>rfl,fun b hb=>by
        rw [updF_append] at hb
        exact (own_put b hb).imp (own_sub (updF_dead fr hf ob)) fun h=>by simp [k] at h⟩
      rw [updF_append]
      exact (oi.sub (updF_dead fr hf ob)).put (nb:=nb) (k:=k) (.inl hnb) (fun _ _ _=>rfl) (fun h=>by simp [k] at h) (fun h=>by simp [k] at h) ⟨by simp [k],fun _=>by simp,fun h=>by simp [k] at h⟩
    · have hr:=run_append_new (P:=P) (w:=w) t ty e i ti.zero ht hi hiz x A 0 0 ys.length c [] (flat cs ys) hnews' (firstCells_ok (by simp) (fun j u hu=>by simp at hu)) (by omega) (by simpa using hle)
        (growslice_fits (by omega) (by rw [hib]; simpa using hb))
      simp only [List.length_nil,Nat.zero_add] at grow
      simp only [Nat.zero_add] at hr
      obtain ⟨σ',hdoes⟩:=grow [] 0 (by simp [flat]) (by omega) _ _ rfl rfl (updF_dead fr hf ob)
      exact ⟨_,_,σ',hr,by simpa using hdoes⟩
  | row o k xs0 n cap ho hk hr h0 h1 h2 =>
    obtain ⟨k',hk',hx,_,hreal⟩:=oi.ok o _ ho
    rw [hk] at hk'
    obtain rfl:=Option.some.inj hk'
    obtain ⟨hm,cur,et,hbk,hcs',ht'⟩:=hreal hr
    have hxl:(xs0.take n).length=n:=by simp; omega
    have hkm:k.m=ti.size:=by rw [← hm,hcs]
    have hcurflat:cur.toList.take (n * cs.length)=flat cs (xs0.take n):=by
      rw [flat_take,← ht',List.take_take,Nat.min_eq_left]
      rw [flat_length]
      exact Nat.mul_le_mul_right _ (by omega)
    have hfr : ∀ p x,updF ob [(o,none)] p=some x→ob p=some x:=updF_dead _ (by simp) ob
    by_cases hroom:n+ys.length≤cap
    · have hfit:n * i.size+(flat cs ys).length≤cur.size:=by
        rw [hly,his,← hkm,← Nat.add_mul,hcs']
        exact Nat.le_trans (Nat.mul_le_mul_right _ hroom) h2
      have hone : ∀ u∈flat cs ys,u.oneCell'=true:=by
        intro u hu
        simp only [flat,List.mem_flatMap] at hu
        obtain ⟨y,_,hu⟩:=hu
        exact vals_one cs y u hu
      have hst:=run_storeCells_at (P:=P) k.b (n * i.size) et (flat cs ys) 0 cur w hbk (by simpa using hfit) hone
      simp only [Nat.add_zero] at hst
      have hrun:=run_append_fit (P:=P) (w:=w) t ty e i ht hi (some ⟨k.b,0,none⟩) A n cap ys.length c (flat cs ys) hnews hroom (fun ad e=>by
        obtain rfl:=Option.some.inj e
        rw [Addr.add_mid,Nat.zero_add]; exact hst) (fun e=>by cases e)
      let k2:Bk:=⟨k.b,n+ys.length,k.m,k.sz,true⟩
      rw [show ys.length=ys.length from rfl] at hrun
      refine ⟨_,_,fun p=>if p=nb then some k2 else σ p,hrun,.ows nb k2 cap (by simp) rfl hroom h2,?_,ext_put (.inl hnb),new_put,.setRow _ _ _,fun b _ hno=>setRow_other w k.b b _ fun e=>hno ⟨o,_,k,ho,hk,hr,e.symm⟩,fun b hb=>by
        rw [updF_append] at hb
        exact (own_put b hb).elim (fun h => .inl (own_sub hfr h)) fun h => .inl ⟨o,_,k,ho,hk,hr,h.2⟩⟩
      rw [updF_append]
      refine (oi.sub hfr).put (nb:=nb) (k:=k2) (.inl hnb) (fun b _ hne=>setRow_other w k.b b _ (hne rfl)) (fun _ p y k' hp _ hk' hr' hb' => ?_) (fun _=>oi.sep o _ k ho hk hr) ⟨by simp only [List.length_append,hxl,k2],fun h=>by simp [k2] at h,fun _=>⟨hm,_,et,setRow_heap w k.b cur _ et _ hbk,?_,?_⟩⟩
      · have hpo:p≠o:=by
          intro e
          subst e
          simp [updF] at hp
        exact hpo (oi.inj p o y _ k' k (hfr p y hp) ho hk' hk hr' hr hb')
      · show _=k.sz
        simp
        omega
      · simp only [List.toList_toArray]
        have e1:n * i.size=n * cs.length:=by rw [his,hcs]
        rw [e1,hcurflat,← flat_append]
        exact List.take_left
    · have hle':n+ys.length≤9223372036854775807:=by rw [hxl] at hle; exact hle
      have hb':(n+ys.length) * ti.bytes≤140737488355328:=by rw [hxl] at hb; exact hb
      have grow':=grow
      rw [hxl] at grow'
      have holds:(Builtin.firstCells i.size n (.slice (some ⟨k.b,0,none⟩) n cap)).run P w.drew = .ok (flat cs (xs0.take n)).toArray w.drew:=by
        refine firstCells_ok (by rw [flat_length,hxl,hcs,his]) fun j u hu=>⟨_,rfl,?_⟩
        show w.cell? _=_
        rw [block_cell hbk,Nat.zero_add]
        rw [← hcurflat,List.getElem?_take] at hu
        split at hu
        · simpa using hu
        · cases hu
      have hrun:=run_append_new (P:=P) (w:=w) t ty e i ti.zero ht hi hiz (some ⟨k.b,0,none⟩) A n cap ys.length c _ (flat cs ys) hnews' holds (by omega) hle' (growslice_fits (by omega) (by rw [hib]; exact hb'))
      obtain ⟨σ',hdoes⟩:=grow' _ cap rfl (by omega) _ _ rfl rfl hfr
      exact ⟨_,_,σ',hrun,hdoes⟩
end Go.Proofs.YtkjnijddbiconaaGreatDoor.Ev

namespace Go.Proofs.YtkjnijddbiconaaGreatDoor.Ev
open Go
set_option linter.unusedVariables false
set_option linter.unusedSimpArgs false
variable {P:Program} {E:Env} {S:Sb} {σ:Sg} {l:List AV} {a:Act} {ob:Ob} {w:World}
theorem intOp_ok{op:BinOp}{k:IntKind}{x y:Int}{r:AV}(h:intOp op k x y=some (true,r)) : ∃ v,r = .val v ∧
    (binOp op 0 (.int k x) (.int k y)).run P w = .ok v w ∧ ∀ t,(binOp op t (.int k x) (.int k y))=binOp op 0 (.int k x) (.int k y):=by
  cases op<;>simp [intOp,sure] at h
  case quo=>exact ⟨_,h.2.symm,by simp [binOp,Op.intDiv,h.1],fun t=>rfl⟩
  case rem=>exact ⟨_,h.2.symm,by simp [binOp,Op.intDiv,h.1],fun t=>rfl⟩
  all_goals exact ⟨_,h.symm,by simp [binOp,Op.intArith,Op.intBits,Op.intCmp],fun t=>rfl⟩
theorem shiftOp_ok{op:BinOp}(ho:op = .shl∨op = .shr){k k':IntKind}{x y:Int}{r:AV}(h:shiftOp op k x y=some (true,r)) : ∃ v,r = .val v ∧
    (binOp op 0 (.int k x) (.int k' y)).run P w = .ok v w ∧ ∀ t,(binOp op t (.int k x) (.int k' y))=binOp op 0 (.int k x) (.int k' y):=by
  rcases ho with rfl | rfl<;>simp [shiftOp] at h<;>exact ⟨_,h.2.symm,by simp [binOp,Op.shift,Int.not_lt.2 h.1],fun t=>rfl⟩
theorem strOp_ok{op:BinOp}{x y:ByteArray}{r:AV}(h:strOp op x y=some (true,r)) : ∃ v,r = .val v ∧
    (binOp op 0 (.string x) (.string y)).run P w = .ok v w ∧ ∀ t,(binOp op t (.string x) (.string y))=binOp op 0 (.string x) (.string y):=by
  cases op<;>simp [strOp,sure] at h
  case add=>exact ⟨_,h.2.symm,by
    have : ¬ (9223372036854775807 < (x.size:Int)+(y.size:Int)):=by omega
    simp [binOp,Op.stringOp,this],fun t=>rfl⟩
  all_goals exact ⟨_,h.symm,by simp [binOp,Op.stringOp,strEq,strLt],fun t=>rfl⟩
theorem guard_no{op:BinOp}{t:TypeId}{x y:Operand}{u v:Value}(ho:op ≠ .eql∧op ≠ .neq):eqGuard op t x y u v=pure ():=by
  cases op<;>first | rfl | (simp at ho)
theorem guard_eql{t:TypeId}{x y:Operand}{u v:Value}(h:match u,v with | .nilIface,.nilIface=>isConst y=true | .agg _,.agg _=>False | _,_=>True) :
    (eqGuard .eql t x y u v).run P w = .ok () w:=by
  cases u<;>cases v<;>first
    | rfl
    | exact h.elim
    | (cases y<;>first | (simp [isConst] at h; done) | (cases x<;>rfl))
theorem guard_ok{op:BinOp}{t:TypeId}{x y:Operand}{u v:Value}(h:match u,v with | .nilIface,.nilIface=>isConst y=true | .agg _,.agg _=>False | _,_=>True) :
    (eqGuard op t x y u v).run P w = .ok () w:=by
  by_cases h1:op = .eql
  · subst h1; exact guard_eql h
  · by_cases h2:op = .neq
    · subst h2; exact guard_eql h
    · rw [guard_no ⟨h1,h2⟩]; rfl
theorem run_eql_any{t:TypeId}{u v:Value}{b:Bool}(h : ∀ op,binOp op t u v=(match op with | .eql=>(do pure (.bool (← Op.equal t u v)):Sem Value) | .neq=>(do pure (.bool (!(← Op.equal t u v))):Sem Value) | op=>binOp op t u v))
    (he:(Op.equalIn 10000 t u v).run P w = .ok b w):(binOp .eql t u v).run P w = .ok (.bool b) w∧(binOp .neq t u v).run P w = .ok (.bool (!b)) w:=by
  have he':(Op.equal t u v).run P w = .ok b w:=he
  constructor
  · rw [h .eql]; simp only [Sem.run_bind,he',Result.andThen_ok,Sem.run_pure]
  · rw [h .neq]; simp only [Sem.run_bind,he',Result.andThen_ok,Sem.run_pure]
theorem run_equalIn_bools{t:TypeId}(hb:P.underlying t=some .bool)(d:Nat)(p q:Bool):(Op.equalIn (d+1) t (.bool p) (.bool q)).run P w = .ok (p==q) w:=by
  simp [Op.equalIn,run_underlying hb]
theorem run_equalIn_some{t t':TypeId}{ms:Array (String × TypeId)}(hb:P.underlying t=some (.interface ms))(d:Nat)(v:Value):(Op.equalIn (d+1) t (.iface t' v) .nilIface).run P w = .ok false w:=by
  simp [Op.equalIn,run_underlying hb]
theorem run_equalIn_nils{t:TypeId}{ms:Array (String × TypeId)}(hb:P.underlying t=some (.interface ms))(d:Nat):(Op.equalIn (d+1) t .nilIface .nilIface).run P w = .ok true w:=by
  simp [Op.equalIn,run_underlying hb]
theorem run_bind_ok{α β:Type}{x:Sem α}{f:α→Sem β}{r:α}(h:x.run P w = .ok r w):(x >>= f).run P w=(f r).run P w:=by
  rw [Sem.run_bind,h]; rfl
def EqsOK(P:Program)(E:Env):Prop := ∀ t∈E.eqs,∀ ti,lookN E.tt t=some ti → ∀ (a b:Elem ti.cks) (x y:Operand) (w:World),
  (eqGuard .eql t x y (.agg (vals ti.cks a).toArray) (.agg (vals ti.cks b).toArray)).run P w = .ok () w∧(eqGuard .neq t x y (.agg (vals ti.cks a).toArray) (.agg (vals ti.cks b).toArray)).run P w = .ok () w ∧
  (Op.equal t (.agg (vals ti.cks a).toArray) (.agg (vals ti.cks b).toArray)).run P w = .ok (elemEq ti.cks a b) w
theorem elemOf_ok{cs:List CK}{us:List AV}{e:Elem cs}{xs:List Value}(h:elemOf cs us=some e)(hl:RL S σ us xs):xs=vals cs e:=by
  unfold elemOf at h
  split at h
  · rename_i vs hvs
    rw [flatAVs_RL hvs hl]
    exact ofVals_vals cs vs e h
  · cases h
theorem structEq_ok{ti:Option TI}{us vs:List AV}{b:Bool}{xs ys:List Value}(h:structEq ti us vs=some b)(h1:RL S σ us xs)(h2:RL S σ vs ys) :
    ∃ t e e',ti=some t∧xs=vals t.cks e∧ys=vals t.cks e'∧b=elemEq t.cks e e':=by
  unfold structEq at h
  split at h
  · rename_i t
    split at h
    · rename_i e e' he he'
      simp at h
      exact ⟨t,e,e',rfl,elemOf_ok he h1,elemOf_ok he' h2,h.symm⟩
    · cases h
  · cases h
theorem eqOp_eq{op:BinOp}{b:Option Bool}{r:AV}(h:eqOp op b=some (true,r)) : ∃ c,b=some c∧((op = .eql∧r = .val (.bool c))∨(op = .neq∧r = .val (.bool (!c)))):=by
  unfold eqOp at h
  split at h
  · simp [sure] at h; exact ⟨_,rfl,.inl ⟨rfl,h.symm⟩⟩
  · simp [sure] at h; exact ⟨_,rfl,.inr ⟨rfl,h.symm⟩⟩
  · cases h
theorem binOp_ok(tt:TTOK P E.tt)(he:EqsOK P E){op:BinOp}{t:Nat}{x y:Operand}{ax ay:AV}{r:AV}(h:binOpA E op t (isConst y) ax ay=some (true,r)){u v:Value}(hu:R S σ ax u)(hv:R S σ ay v) :
    ∃ z,(do eqGuard op t x y u v; binOp op t u v:Sem Value).run P w = .ok z w∧R S σ r z:=by
  unfold binOpA at h
  split at h
  · rename_i k p k' q
    cases hu; cases hv
    have hg:=guard_ok (P:=P) (w:=w) (op:=op) (t:=t) (x:=x) (y:=y) (u := .int k p) (v := .int k' q) trivial
    split at h
    · obtain ⟨z,rfl,hr,ht⟩:=shiftOp_ok (P:=P) (w:=w) (k':=k') (.inl rfl) h
      exact ⟨z,(run_bind_ok hg).trans (by rw [ht]; exact hr),.val z⟩
    · obtain ⟨z,rfl,hr,ht⟩:=shiftOp_ok (P:=P) (w:=w) (k':=k') (.inr rfl) h
      exact ⟨z,(run_bind_ok hg).trans (by rw [ht]; exact hr),.val z⟩
    · split at h
      · rename_i hk
        subst hk
        obtain ⟨z,rfl,hr,ht⟩:=intOp_ok (P:=P) (w:=w) h
        exact ⟨z,(run_bind_ok hg).trans (by rw [ht]; exact hr),.val z⟩
      · cases h
  · rename_i p q
    cases hu; cases hv
    have hg:=guard_ok (P:=P) (w:=w) (op:=op) (t:=t) (x:=x) (y:=y) (u := .string p) (v := .string q) trivial
    obtain ⟨z,rfl,hr,ht⟩:=strOp_ok (P:=P) (w:=w) h
    exact ⟨z,(run_bind_ok hg).trans (by rw [ht]; exact hr),.val z⟩
  · rename_i p q
    split at h
    · rename_i hl
      have row:=tt.row hl
      have hb:=row.bool rfl
      cases hu; cases hv
      have hg:=guard_ok (P:=P) (w:=w) (op:=op) (t:=t) (x:=x) (y:=y) (u := .bool p) (v := .bool q) trivial
      obtain ⟨c,hc,hr⟩:=eqOp_eq h
      obtain rfl:=Option.some.inj hc
      have hq:=run_eql_any (P:=P) (w:=w) (t:=t) (u := .bool p) (v := .bool q) (fun op=>by cases op<;>rfl) (run_equalIn_bools hb 9999 p q)
      rcases hr with ⟨rfl,rfl⟩ | ⟨rfl,rfl⟩
      · exact ⟨_,(run_bind_ok hg).trans hq.1,.val _⟩
      · exact ⟨_,(run_bind_ok hg).trans hq.2,.val _⟩
    · cases h
  · rename_i us vs
    split at h
    · rename_i hin
      obtain ⟨c,hc,hr⟩:=eqOp_eq h
      cases hu with
      | agg _ xs hl1 hR1 =>
        cases hv with
        | agg _ ys hl2 hR2 =>
          obtain ⟨ti,e1,e2,hti,rfl,rfl,rfl⟩:=structEq_ok hc ⟨hl1,hR1⟩ ⟨hl2,hR2⟩
          obtain ⟨g1,g2,g3⟩:=he t (by simpa using hin) ti hti e1 e2 x y w
          rcases hr with ⟨rfl,rfl⟩ | ⟨rfl,rfl⟩
          · exact ⟨_,(run_bind_ok g1).trans (run_eql_any (fun op=>by cases op<;>rfl) g3).1,.val _⟩
          · exact ⟨_,(run_bind_ok g2).trans (run_eql_any (fun op=>by cases op<;>rfl) g3).2,.val _⟩
    · cases h
  · split at h
    · rename_i hi
      unfold ifaceT at hi
      split at hi
      · rename_i hl
        obtain ⟨ms,hm⟩:=(tt.row hl).iface rfl
        cases hu with
        | ifc t' v' =>
          cases hv
          have hg:=guard_ok (P:=P) (w:=w) (op:=op) (t:=t) (x:=x) (y:=y) (u := .iface t' v') (v := .nilIface) trivial
          obtain ⟨c,hc,hr⟩:=eqOp_eq h
          obtain rfl:=Option.some.inj hc
          have hq:=run_eql_any (P:=P) (w:=w) (t:=t) (u := .iface t' v') (v := .nilIface) (fun op=>by cases op<;>rfl) (run_equalIn_some hm 9999 v')
          rcases hr with ⟨rfl,rfl⟩ | ⟨rfl,rfl⟩
          · exact ⟨_,(run_bind_ok hg).trans hq.1,.val _⟩
          · exact ⟨_,(run_bind_ok hg).trans hq.2,.val _⟩
      · cases hi
    · cases h
  · split at h
    · rename_i hi
      simp at hi
      obtain ⟨hi,hcy⟩:=hi
      unfold ifaceT at hi
      split at hi
      · rename_i hl
        obtain ⟨ms,hm⟩:=(tt.row hl).iface rfl
        cases hu; cases hv
        have hg:=guard_ok (P:=P) (w:=w) (op:=op) (t:=t) (x:=x) (y:=y) (u := .nilIface) (v := .nilIface) hcy
        obtain ⟨c,hc,hr⟩:=eqOp_eq h
        obtain rfl:=Option.some.inj hc
        have hq:=run_eql_any (P:=P) (w:=w) (t:=t) (u := .nilIface) (v := .nilIface) (fun op=>by cases op<;>rfl) (run_equalIn_nils hm 9999)
        rcases hr with ⟨rfl,rfl⟩ | ⟨rfl,rfl⟩
        · exact ⟨_,(run_bind_ok hg).trans hq.1,.val _⟩
        · exact ⟨_,(run_bind_ok hg).trans hq.2,.val _⟩
      · cases hi
    · cases h
  · cases h
theorem unOp_ok{op:UnOp}{ax r:AV}(h:unOpA op ax=some (true,r)){u:Value}(hu:R S σ ax u) : ∃ z,(Op.unary op u).run P w = .ok z w∧R S σ r z:=by
  unfold unOpA at h
  split at h
  · cases hu; simp [sure] at h; subst h; exact ⟨_,by simp [Op.unary,Op.intArith],.val _⟩
  · cases hu; simp [sure] at h; subst h; exact ⟨_,by simp [Op.unary],.val _⟩
  · cases h
end Go.Proofs.YtkjnijddbiconaaGreatDoor.Ev

namespace Go.Proofs.YtkjnijddbiconaaGreatDoor.Ev
open Go
set_option linter.unusedVariables false
set_option linter.unusedSimpArgs false
variable {P:Program} {E:Env} {S:Sb} {σ:Sg} {l:List AV} {a:Act} {ob:Ob} {w:World}
theorem Addr.add_add(ad:Addr)(n j:Nat):(ad.add n).add j=ad.add (n+j):=by
  unfold Addr.add
  by_cases h1:n=0<;>by_cases h2:j=0<;>simp [h1,h2,Nat.add_assoc]
theorem addOff_ok{n:Nat}{av r:AV}(h:addOff n av=some r){v:Value}(hv:R S σ av v) : ∃ ad,v = .pointer (some ad)∧R S σ r (.pointer (some (ad.add n))):=by
  unfold addOff at h
  split at h
  · simp at h; subst h
    cases hv with
    | ptr o j k hk hr=>exact ⟨_,rfl,by rw [Addr.add_mid]; exact .ptr _ _ k hk hr⟩
  · simp at h; subst h
    cases hv with
    | oel o i j k hk hr hi=>exact ⟨_,rfl,by rw [Addr.add_mid,Nat.add_assoc]; exact .oel _ _ _ k hk hr hi⟩
  · simp at h; subst h
    cases hv with
    | rel us ad hc=>exact ⟨_,rfl,.rel _ _ fun j u hu=>by rw [Addr.add_add]; exact hc _ _ (by simpa [List.getElem?_drop] using hu)⟩
  · simp at h; subst h
    cases hv with
    | rpt us vs ad hl hR hc =>
      exact ⟨_,rfl,.rpt _ (vs.drop n) _ (by simp [hl]) (fun j u v hu hv=>hR (n+j) u v (by simpa [List.getElem?_drop] using hu) (by simpa [List.getElem?_drop] using hv))
        fun j u hu=>by rw [Addr.add_add]; exact hc _ _ (by simpa [List.getElem?_drop] using hu)⟩
  · cases h
theorem kindO_eq{o:Nat}{n:Nat}(h:(kindO ob o).length=n)(hn:0 < n) : ∃ cs xs,ob o=some (.row cs xs)∧cs.length=n:=by
  unfold kindO at h
  split at h
  · rename_i cs xs ho; exact ⟨cs,xs,ho,h⟩
  · simp at h; omega
theorem indexAddr_ok(tt:TTOK P E.tt)(oi:OI S σ ob w){t:Nat}{av r:AV}{i:Int}(h:indexAddrA E ob t av i=some (true,r)){v:Value}(hv:R S σ av v)(k:IntKind) :
    ∃ u,(Instr.indexAt t v (.int k i)).run P w = .ok u w∧R S σ r u:=by
  unfold indexAddrA at h
  split at h
  · rename_i n e _ _ _ _ hl
    have hu:=(tt.row hl).array rfl
    split at h
    · rename_i ti hte
      have row:=tt.row hte
      unfold condV at h
      split at h
      · rename_i r' hr'
        simp at h
        obtain ⟨⟨h0,h1⟩,rfl⟩:=h
        obtain ⟨ad,rfl,hR⟩:=addOff_ok hr' hv
        refine ⟨_,?_,hR⟩
        simp [Instr.indexAt,asIntOf,run_underlying hu,Instr.sureAddr,h0,h1,row.sizeOf w]
      · cases h
    · cases h
  · rename_i e _ _ _ _ hl
    have hu:=(tt.row hl).slice rfl
    split at h
    · rename_i ti n hte hn
      have row:=tt.row hte
      have run : ∀ (ad:Addr) (len c:Nat),0≤i→i < (len:Int)→(Instr.indexAt t (.slice (some ad) len c) (.int k i)).run P w = .ok (.pointer (some (ad.add (i.toNat * ti.size)))) w:=by
        intro ad len c h0 h1
        simp [Instr.indexAt,asIntOf,run_underlying hu,h0,h1,row.sizeOf w]
      split at h
      · rename_i cs xs
        split at h
        · rename_i hc
          obtain ⟨hc,hpos⟩:=hc
          simp at h
          obtain ⟨⟨h0,h1⟩,rfl⟩:=h
          simp [lenAV] at hn
          subst hn
          cases hv with
          | rsl _ _ A c hcap hcell =>
            have hi:i.toNat < xs.length:=by omega
            have hg : ∀ j u,(vals cs (xs.getD i.toNat (edflt cs)))[j]? = some u → ∃ ad,A=some ad∧cellS S (ad.add (i.toNat * cs.length+j))=some u:=by
              intro j u hj
              have hjl:j < cs.length:=by
                have:=(List.getElem?_eq_some_iff.1 hj).1
                rwa [vals_length] at this
              rw [← flat_get cs xs i.toNat j hi hjl] at hj
              exact hcell _ _ hj
            have hne : ∃ u,(vals cs (xs.getD i.toNat (edflt cs)))[0]? = some u:=by
              have:0 < (vals cs (xs.getD i.toNat (edflt cs))).length:=by rw [vals_length]; omega
              exact ⟨_,List.getElem?_eq_getElem this⟩
            obtain ⟨u0,hu0⟩:=hne
            obtain ⟨ad,rfl,_⟩:=hg 0 u0 hu0
            refine ⟨_,run ad xs.length c h0 h1,.rel _ _ fun j u hj => ?_⟩
            obtain ⟨ad',e',hh⟩:=hg j u hj
            obtain rfl:=Option.some.inj e'
            rw [Addr.add_add,← hc]
            exact hh
        · cases h
      · rename_i o
        split at h
        · rename_i hc
          obtain ⟨cs,xs,ho,hcs⟩:=kindO_eq hc.1 hc.2
          simp at h
          obtain ⟨⟨h0,h1⟩,rfl⟩:=h
          simp [lenAV,ho] at hn
          subst hn
          obtain ⟨k',hk',hx,hvt,hreal⟩:=oi.ok o _ ho
          cases hv with
          | ows _ k2 cap hk hr g1 g2 =>
            rw [hk] at hk'
            obtain rfl:=Option.some.inj hk'
            obtain ⟨hm,_⟩:=hreal hr
            refine ⟨_,run _ _ _ h0 (by omega),?_⟩
            rw [Addr.add_mid,Nat.zero_add,← hcs,hm]
            exact .oel _ _ 0 k2 hk hr (by omega)
          | ows0 _ k2 x hk hr hn =>
            rw [hk] at hk'
            obtain rfl:=Option.some.inj hk'
            rw [hvt hr] at h1
            simp at h1; omega
        · cases h
      · rename_i o lo n'
        split at h
        · rename_i hc
          obtain ⟨cs,xs,ho,hcs⟩:=kindO_eq hc.1 hc.2
          simp at h
          obtain ⟨⟨h0,h1⟩,rfl⟩:=h
          simp [lenAV] at hn
          subst hn
          obtain ⟨k',hk',hx,hvt,hreal⟩:=oi.ok o _ ho
          cases hv with
          | osl _ _ _ k2 cap hk hr g0 g1 g2 =>
            rw [hk] at hk'
            obtain rfl:=Option.some.inj hk'
            obtain ⟨hm,_⟩:=hreal hr
            refine ⟨_,run _ _ _ h0 (by omega),?_⟩
            rw [Addr.add_mid,← hcs,hm,← Nat.add_mul]
            exact .oel _ _ 0 k2 hk hr (by omega)
          | osl0 _ _ k2 x hk g0=>simp at h1; omega
        · cases h
      · rename_i o j cs n'
        split at h
        · rename_i hc
          simp at h
          obtain ⟨⟨h0,h1⟩,rfl⟩:=h
          simp [lenAV] at hn
          subst hn
          cases hv with
          | bsl _ _ _ _ k2 c hk hr hcc =>
            refine ⟨_,run _ _ _ h0 (by omega),?_⟩
            rw [Addr.add_mid]
            exact .ptr _ _ k2 hk hr
        · cases h
      · cases h
    · cases h
  · cases h
theorem bound_ok(hs:Slots S σ l a){d n:Int}{x:Option Operand}(h:boundA E (getT l) d x=some n):(x=none∧n=d) ∨ ∃ y k,x=some y∧a.eval y = .int k n:=by
  unfold boundA at h
  split at h
  · simp at h; exact .inl ⟨rfl,h.symm⟩
  · rename_i y
    split at h
    · rename_i av hav
      have hr:=opd_R hs 0 y av hav
      unfold intOfAV at h
      split at h
      · simp at h; subst h
        generalize hz:a.eval y=z at hr
        cases hr
        exact .inr ⟨y,_,rfl,hz⟩
      · cases h
    · cases h
theorem run_bounds(isSlice:Bool)(len cap:Nat)(lo hi mx:Option Value)(lv hv mv:Int)(hlo:(lo=none∧lv=0) ∨ ∃ k,lo=some (.int k lv))(hhi:(hi=none∧hv=len∧mx=none) ∨ ∃ k,hi=some (.int k hv))
    (hmx:(mx=none∧mv=cap) ∨ ∃ k,mx=some (.int k mv)) (h0:0≤lv) (h1:lv≤hv) (h2:hv≤mv) (h3:mv≤cap) :
    (Instr.sliceBounds isSlice len cap lo hi mx).run P w = .ok (lv.toNat,hv.toNat,mv.toNat) w:=by
  have sb : ∀ (k:IntKind) (x:Int) (y:Nat) (c:BoundsCode),0≤x→x≤(y:Int)→(Instr.sliceBound (.int k x) y c).run P w = .ok x.toNat w:=by
    intro k x y c g0 g1
    simp [Instr.sliceBound,asIntOf,g0,g1]
  have m1 : ∀ k c,(Instr.sliceBound (.int k mv) cap c).run P w = .ok mv.toNat w:=fun k c=>sb k mv cap c (by omega) h3
  have m2 : ∀ k c,(Instr.sliceBound (.int k hv) mv.toNat c).run P w = .ok hv.toNat w:=fun k c=>sb k hv _ c (by omega) (by omega)
  have m3 : ∀ k c,(Instr.sliceBound (.int k lv) hv.toNat c).run P w = .ok lv.toNat w:=fun k c=>sb k lv _ c h0 (by omega)
  rcases hlo with ⟨rfl,rfl⟩ | ⟨kl,rfl⟩<;>rcases hhi with ⟨rfl,rfl,rfl⟩ | ⟨kh,rfl⟩<;>rcases hmx with ⟨h4,rfl⟩ | ⟨km,h4⟩<;>(try (cases h4; done))<;>(try subst h4)<;>(try simp only [Int.toNat_natCast] at m1 m2 m3) <;>
    simp [Instr.sliceBounds,m1,m2,m3]
end Go.Proofs.YtkjnijddbiconaaGreatDoor.Ev

namespace Go.Proofs.YtkjnijddbiconaaGreatDoor.Ev
open Go
set_option linter.unusedVariables false
set_option linter.unusedSimpArgs false
variable {P:Program} {E:Env} {S:Sb} {σ:Sg} {l:List AV} {a:Act} {ob:Ob} {w:World}
theorem cut_ok(tt:TTOK P E.tt)(oi:OI S σ ob w){t e:Nat}{te:TI}(hu:P.underlying t=some (.slice e))(row:RowOK P e te){av r:AV}{n:Nat}(hn:lenAV ob av=some n){lv hv mv:Int}
    (h:cutA ob te.size av lv hv n mv=some (true,r)) {v:Value} (hR:R S σ av v) {lo hi mx:Option Value}
    (hlo:(lo=none∧lv=0) ∨ ∃ k,lo=some (.int k lv)) (hhi:(hi=none∧hv=n) ∨ ∃ k,hi=some (.int k hv)) (hmx:(mx=none∧mv=n) ∨ ∃ k,mx=some (.int k mv)) (hmh:mx≠none→hi≠none) :
    ∃ u,(Instr.sliceAt t v lo hi mx).run P w = .ok u w∧R S σ r u:=by
  -- what the model cuts
  have run : ∀ (A:Option Addr) (c:Nat),v = .slice A n c→n≤c→0≤lv→lv≤hv→hv≤mv→mv≤(n:Int) →
      ∃ m:Nat,hv.toNat≤m∧m≤c∧(Instr.sliceAt t v lo hi mx).run P w = .ok (.slice (if m=lv.toNat then A else A.map (·.add (lv.toNat * te.size))) (hv.toNat - lv.toNat) (m - lv.toNat)) w:=by
    intro A c hv' hc h0 h1 h2 h3
    subst hv'
    rcases hmx with ⟨rfl,hm⟩ | ⟨km,rfl⟩
    · have hb:=run_bounds (P:=P) (w:=w) true n c lo hi none lv hv c hlo (by rcases hhi with ⟨x,y⟩ | ⟨k,x⟩; exact .inl ⟨x,y,rfl⟩; exact .inr ⟨k,x⟩) (.inl ⟨rfl,rfl⟩) h0 h1 (by omega) (by omega)
      refine ⟨c,by omega,Nat.le_refl _,?_⟩
      simp [Instr.sliceAt,run_underlying hu,Instr.slice,hb,row.sizeOf w]
    · have hb:=run_bounds (P:=P) (w:=w) true n c lo hi (some (.int km mv)) lv hv mv hlo (by rcases hhi with ⟨x,y⟩ | ⟨k,x⟩; exact absurd x (hmh (by simp)); exact .inr ⟨k,x⟩) (.inr ⟨km,rfl⟩) h0 h1 h2 (by omega)
      refine ⟨mv.toNat,by omega,by omega,?_⟩
      simp [Instr.sliceAt,run_underlying hu,Instr.slice,hb,row.sizeOf w]
  unfold cutA at h
  split at h
  · simp at h
    obtain ⟨⟨h0,h1,h2,h3⟩,rfl⟩:=h
    simp [lenAV] at hn
    subst hn
    cases hR
    obtain ⟨m,g1,g2,hr⟩:=run none 0 rfl (Nat.le_refl _) h0 h1 h2 h3
    have e1:lv.toNat=0:=by omega
    have e2:hv.toNat=0:=by omega
    have e3:m=0:=by omega
    rw [e1,e2,e3] at hr
    exact ⟨_,hr,by simpa using R.nsl _⟩
  · rename_i cs xs
    split at h
    · rename_i hc
      simp at h
      obtain ⟨⟨h0,h1,h2,h3⟩,rfl⟩:=h
      simp [lenAV] at hn
      subst hn
      cases hR with
      | rsl _ _ A c hcap hcell =>
        obtain ⟨m,g1,g2,hr⟩:=run A c rfl hcap h0 h1 h2 h3
        refine ⟨_,hr,?_⟩
        have hlen:((xs.take hv.toNat).drop lv.toNat).length=hv.toNat - lv.toNat:=by simp; omega
        rw [← hlen]
        refine .rsl _ _ _ _ (by rw [hlen]; omega) fun j u hj => ?_
        have hjl:=(List.getElem?_eq_some_iff.1 hj).1
        rw [flat_length,hlen] at hjl
        rw [flat_drop,flat_take,List.getElem?_drop,List.getElem?_take] at hj
        split at hj
        · rename_i hlt
          obtain ⟨ad,rfl,hcl⟩:=hcell _ _ hj
          have hne:m≠lv.toNat:=by
            intro e
            have:hv.toNat - lv.toNat=0:=by omega
            rw [this] at hjl
            simp at hjl
          refine ⟨ad.add (lv.toNat * te.size),by simp [hne],?_⟩
          rw [Addr.add_add,← hc]
          exact hcl
        · cases hj
    · cases h
  · rename_i o
    split at h
    · rename_i hc
      obtain ⟨cs,xs,ho,hcs⟩:=kindO_eq hc.1 hc.2
      simp at h
      obtain ⟨⟨h0,h1,h2,h3⟩,rfl⟩:=h
      simp [lenAV,ho] at hn
      subst hn
      obtain ⟨k',hk',hx,hvt,hreal⟩:=oi.ok o _ ho
      cases hR with
      | ows _ k2 cap hk hr q1 q2 =>
        rw [hk] at hk'
        obtain rfl:=Option.some.inj hk'
        obtain ⟨hm,_⟩:=hreal hr
        obtain ⟨m,g1,g2,hrun⟩:=run _ cap (by rw [hx]) (by omega) h0 h1 h2 h3
        have hsub:(hv - lv).toNat=hv.toNat - lv.toNat:=by omega
        refine ⟨_,hrun,?_⟩
        rw [hsub]
        by_cases e:m=lv.toNat
        · have e1:hv.toNat - lv.toNat=0:=by omega
          have e2:m - lv.toNat=0:=by omega
          rw [e1,e2]
          exact .osl0 _ _ k2 _ hk (by omega)
        · rw [if_neg e]
          simp only [Option.map_some,Addr.add_mid,Nat.zero_add]
          rw [← hcs,hm]
          refine .osl _ _ _ k2 _ hk hr (by omega) (by omega) ?_
          have:lv.toNat+(m - lv.toNat)=m:=by omega
          rw [this]
          exact Nat.le_trans (Nat.mul_le_mul_right _ g2) q2
      | ows0 _ k2 x hk hr hn0 =>
        rw [hk] at hk'
        obtain rfl:=Option.some.inj hk'
        have hx0:=hvt hr
        subst hx0
        obtain ⟨m,g1,g2,hrun⟩:=run x 0 rfl (Nat.le_refl _) h0 h1 h2 h3
        have e1:lv.toNat=0:=by simp at h3; omega
        have e2:hv.toNat=0:=by simp at h3; omega
        have e3:m=0:=by omega
        have e4:(hv - lv).toNat=0:=by simp at h3; omega
        rw [e1,e2,e3] at hrun
        rw [e1,e4]
        exact ⟨_,hrun,by simpa using R.osl0 o 0 k2 x hk (by omega)⟩
    · cases h
  · rename_i o lo0 n0
    split at h
    · rename_i hc
      obtain ⟨cs,xs,ho,hcs⟩:=kindO_eq hc.1 hc.2
      simp at h
      obtain ⟨⟨h0,h1,h2,h3⟩,rfl⟩:=h
      simp [lenAV] at hn
      subst hn
      obtain ⟨k',hk',hx,hvt,hreal⟩:=oi.ok o _ ho
      have hsub:(hv - lv).toNat=hv.toNat - lv.toNat:=by omega
      cases hR with
      | osl _ _ _ k2 cap hk hr q0 q1 q2 =>
        rw [hk] at hk'
        obtain rfl:=Option.some.inj hk'
        obtain ⟨hm,_⟩:=hreal hr
        obtain ⟨m,g1,g2,hrun⟩:=run _ cap rfl (by omega) h0 h1 h2 h3
        refine ⟨_,hrun,?_⟩
        rw [hsub]
        by_cases e:m=lv.toNat
        · have e1:hv.toNat - lv.toNat=0:=by omega
          have e2:m - lv.toNat=0:=by omega
          rw [e1,e2]
          exact .osl0 _ _ k2 _ hk (by omega)
        · rw [if_neg e]
          simp only [Option.map_some,Addr.add_mid]
          rw [← hcs,hm,← Nat.add_mul]
          refine .osl _ _ _ k2 _ hk hr (by omega) (by omega) ?_
          have:lo0+lv.toNat+(m - lv.toNat)=lo0+m:=by omega
          rw [this]
          exact Nat.le_trans (Nat.mul_le_mul_right _ (by omega)) q2
      | osl0 _ _ k2 x hk q0 =>
        obtain ⟨m,g1,g2,hrun⟩:=run x 0 rfl (Nat.le_refl _) h0 h1 h2 h3
        have e1:lv.toNat=0:=by simp at h3; omega
        have e2:hv.toNat=0:=by simp at h3; omega
        have e3:m=0:=by omega
        rw [e1,e2,e3] at hrun
        rw [hsub,e1,e2]
        exact ⟨_,hrun,by simpa using R.osl0 o lo0 k2 x hk q0⟩
    · cases h
  · cases h
theorem optMap{x:Option Operand}{f:Operand→Value}{d n:Int}(h:(x=none∧n=d) ∨ ∃ y k,x=some y∧f y = .int k n):(x.map f=none∧n=d) ∨ ∃ k,x.map f=some (.int k n):=by
  rcases h with ⟨rfl,rfl⟩ | ⟨y,k,rfl,h⟩
  · exact .inl ⟨rfl,rfl⟩
  · exact .inr ⟨k,by simp [h]⟩
theorem slice_ok(tt:TTOK P E.tt)(hs:Slots S σ l a)(oi:OI S σ ob w){t:Nat}{av r:AV}{lo hi mx:Option Operand}(h:sliceA E (getT l) ob t av lo hi mx=some (true,r)){v:Value}(hR:R S σ av v) :
    ∃ u,(Instr.sliceAt t v (lo.map a.eval) (hi.map a.eval) (mx.map a.eval)).run P w = .ok u w∧R S σ r u:=by
  unfold sliceA at h
  split at h
  · rename_i n e _ _ _ _ hl
    have hu:=(tt.row hl).array rfl
    split at h
    · rename_i ti hte
      have row:=tt.row hte
      split at h
      · rename_i hck
        obtain ⟨hck,hpos⟩:=hck
        have hb:=run_bounds (P:=P) (w:=w) false n n none none none 0 n n (.inl ⟨rfl,rfl⟩) (.inl ⟨rfl,rfl,rfl⟩) (.inl ⟨rfl,rfl⟩) (by omega) (by omega) (by omega) (by omega)
        have run : ∀ ad,(Instr.sliceAt t (.pointer (some ad)) none none none).run P w = .ok (.slice (some ad) n n) w:=by
          intro ad
          simp [Instr.sliceAt,run_underlying hu,Instr.sureAddr,hb,row.sizeOf w]
          by_cases hn:n=0
          · subst hn; simp
          · simp [hn,Addr.add]
        split at h
        · simp at h; subst h
          cases hR with
          | ptr o j k hk hr=>exact ⟨_,run _,.bsl _ _ _ _ k n hk hr (Nat.le_refl _)⟩
        · rename_i us
          split at h
          · rename_i xs hxs
            simp at h; subst h
            cases hR with
            | rpt _ vs ad hll hRR hc =>
              obtain ⟨h1,h2⟩:=elemsX_ok _ _ _ _ _ hxs (⟨hll,hRR⟩:RL S σ us vs)
              refine ⟨_,run ad,?_⟩
              have:=R.rsl (S:=S) (σ:=σ) ti.cks xs (some ad) n (by omega) fun j u hu=>⟨ad,rfl,by
                rw [h2,List.getElem?_take] at hu
                split at hu
                · exact hc _ _ hu
                · cases hu⟩
              rwa [h1] at this
          · cases h
        · rename_i us
          split at h
          · rename_i xs hxs
            simp at h; subst h
            cases hR with
            | rel _ ad hc =>
              obtain ⟨h1,h2⟩:=elemsX_ok _ _ _ _ _ hxs (RL.vals us:RL S σ _ _)
              refine ⟨_,run ad,?_⟩
              have:=R.rsl (S:=S) (σ:=σ) ti.cks xs (some ad) n (by omega) fun j u hu=>⟨ad,rfl,by
                rw [h2,List.getElem?_take] at hu
                split at hu
                · exact hc _ _ hu
                · cases hu⟩
              rwa [h1] at this
          · cases h
        · cases h
      · cases h
    · cases h
  · rename_i hl
    have hu:=(tt.row hl).str rfl
    split at h
    · rename_i s
      split at h
      · rename_i lv hv hlo hhi
        simp [cutS] at h
        obtain ⟨⟨h0,h1,h2⟩,rfl⟩:=h
        cases hR
        have hb:=run_bounds (P:=P) (w:=w) false s.size s.size (lo.map a.eval) (hi.map a.eval) none lv hv s.size (optMap (bound_ok hs hlo)) (by
          rcases optMap (f:=a.eval) (bound_ok hs hhi) with ⟨x,y⟩ | ⟨k,x⟩
          · exact .inl ⟨x,y,rfl⟩
          · exact .inr ⟨k,x⟩) (.inl ⟨rfl,rfl⟩) h0 h1 h2 (by omega)
        exact ⟨_,by simp [Instr.sliceAt,run_underlying hu,Instr.slice,hb],.val _⟩
      · cases h
    · cases h
  · rename_i e _ _ _ _ hl
    have hu:=(tt.row hl).slice rfl
    split at h
    · rename_i ti n hte hn
      split at h
      · cases h
      · rename_i hmh
        split at h
        · rename_i lv hv mv hlo hhi hmx
          exact cut_ok tt oi hu (tt.row hte) hn h hR (optMap (bound_ok hs hlo)) (optMap (bound_ok hs hhi)) (optMap (bound_ok hs hmx)) (by
            intro h1 h2
            cases mx<;>cases hi<;>simp_all)
        · cases h
    · cases h
  · cases h
theorem part_ok{ti:TI}{t:Nat}(row:RowOK P t ti){off:Nat}{us:List AV}{r:AV}(h:partA ti off us=some r){vs:List Value}(hl:RL S σ us vs) :
    ∃ u,(part t vs.toArray off).run P w = .ok u w∧R S σ r u:=by
  unfold partA at h
  split at h
  · rename_i q hq
    obtain ⟨rfl,hn⟩:=takeX_eq _ _ _ hq
    have hlen:=hl.1
    have hvl:off+ti.size≤vs.length∨ti.size=0:=by simp at hn; omega
    rcases ofCells_R h ((hl.drop off).take ti.size) with ⟨ha,hr⟩ | ⟨ha,u,hu,hr⟩
    · refine ⟨_,?_,hr⟩
      simp [part,row.isAgg w,ha,row.sizeOf w]
    · refine ⟨u,?_,hr⟩
      have:vs[off]? = some u:=by
        have:=congrArg (fun l=>l[0]?) hu
        simp only [List.getElem?_take,List.getElem?_drop,Nat.add_zero,List.getElem?_cons_zero] at this
        split at this
        · exact this
        · cases this
      simp [part,row.isAgg w,ha,this]
  · cases h
theorem index_ok(tt:TTOK P E.tt){t:Nat}{av r:AV}{i:Int}(h:indexA E t av i=some (true,r)){v:Value}(hv:R S σ av v)(k:IntKind) :
    ∃ u,(Instr.index t v (.int k i)).run P w = .ok u w∧R S σ r u:=by
  unfold indexA at h
  split at h
  · rename_i s
    split at h
    · rename_i hl
      have hu:=(tt.row hl).str rfl
      simp at h
      obtain ⟨⟨h0,h1⟩,rfl⟩:=h
      cases hv
      have hi:i.toNat < s.size:=by omega
      refine ⟨_,?_,.val _⟩
      have hb:s[i.toNat]? = some (s[i.toNat]'hi):=by simp [hi]
      simp [Instr.index,asIntOf,run_underlying hu,h0,hb,byteAt,hi]
    · cases h
  · rename_i us
    split at h
    · rename_i n e _ _ _ _ hl
      have hu:=(tt.row hl).array rfl
      split at h
      · rename_i ti hte
        have row:=tt.row hte
        unfold condV at h
        split at h
        · rename_i r' hr'
          simp at h
          obtain ⟨⟨h0,h1⟩,rfl⟩:=h
          cases hv with
          | agg _ vs hll hR =>
            obtain ⟨u,hrun,hu'⟩:=part_ok (P:=P) (w:=w) row hr' ⟨hll,hR⟩
            exact ⟨u,by simp [Instr.index,asIntOf,run_underlying hu,h0,h1,row.sizeOf w,hrun],hu'⟩
        · cases h
      · cases h
    · cases h
  · cases h
end Go.Proofs.YtkjnijddbiconaaGreatDoor.Ev

namespace Go.Proofs.YtkjnijddbiconaaGreatDoor.Ev
open Go
set_option linter.unusedVariables false
set_option linter.unusedSimpArgs false
variable {P:Program} {E:Env} {S:Sb} {σ:Sg} {l:List AV} {a:Act} {ob:Ob} {w:World}
theorem flat_bytes : ∀ (xs:List (Elem [.int .u8])),flat [.int .u8] xs=(xs.map (·.1)).map (Value.int .u8)
  | []=>rfl
  | x :: xs=>by rw [flat_cons,flat_bytes xs]; rfl
theorem bytesT_ok(tt:TTOK P E.tt){t:Nat}(h:bytesT E.tt t=true) : ∃ e,P.underlying t=some (.slice e)∧P.underlying e=some (.int .u8):=by
  unfold bytesT at h
  split at h
  · rename_i e _ _ _ _ hl
    split at h
    · rename_i hl'
      exact ⟨e,(tt.row hl).slice rfl,(tt.row hl').int rfl⟩
    · cases h
  · cases h
theorem run_bytes{src dst e:Nat}(hs:P.underlying src=some (.slice e))(he:P.underlying e=some (.int .u8))(hd:P.underlying dst=some .string)(xs:List (Elem [.int .u8]))(A:Option Addr)(c:Nat)
    (h : ∀ j u,(flat [.int .u8] xs)[j]? = some u → ∃ ad,A=some ad∧w.cell? (ad.add j)=some u) :
    (convert src dst (.slice A xs.length c)).run P w = .ok (.string (strOf xs)) w:=by
  rw [run_convert_bytes_string w src dst e A _ c hs he hd]
  cases A with
  | none =>
    have:xs = []:=by
      cases xs with
      | nil=>rfl
      | cons x xs =>
        obtain ⟨ad,h,_⟩:=h 0 (.int .u8 x.1) (by rw [flat_bytes]; rfl)
        cases h
    subst this
    rfl
  | some ad =>
    have hl:=run_loadCells_list (P:=P) w ad (flat [.int .u8] xs) fun j u hu=>by
      obtain ⟨ad',h1,h2⟩:=h j u hu
      obtain rfl:=Option.some.inj h1
      exact h2
    rw [flat_bytes] at hl
    simp only [List.length_map] at hl
    rw [run_bytesToString w ad _ c (xs.map (·.1)) hl,foldl_push_bytes]
    simp [strOf,List.map_map,Function.comp_def]
theorem conv_ok(tt:TTOK P E.tt)(oi:OI S σ ob w){src dst:Nat}{av r:AV}(h:convA E.tt ob src dst av=some (true,r)){v:Value}(hv:R S σ av v) :
    ∃ u,(convert src dst v).run P w = .ok u w∧R S σ r u:=by
  unfold convA at h
  split at h
  · rename_i k _ _ _ _ hl
    have hd:=(tt.row hl).int rfl
    split at h
    · rename_i k' n _ hs
      obtain ⟨d,hs⟩:=(tt.row hs).desc
      simp [sure] at h; subst h
      cases hv
      exact ⟨_,by simp [convert,run_underlying hs,run_underlying hd,Conv.intToInt],.val _⟩
    · cases h
  · rename_i hl
    have hd:=(tt.row hl).str rfl
    split at h
    · rename_i s
      split at h
      · rename_i hs
        obtain ⟨d,hs⟩:=(tt.row hs).desc
        simp [sure] at h; subst h
        cases hv
        exact ⟨_,by simp [convert,run_underlying hs,run_underlying hd],.val _⟩
      · cases h
    · split at h
      · rename_i hb
        obtain ⟨e,hs,he⟩:=bytesT_ok tt hb
        split at h
        · rename_i xs hxs
          simp [sure] at h; subst h
          obtain ⟨A,c,rfl,hc,hcell⟩:=elems_ok oi hxs hv
          exact ⟨_,run_bytes hs he hd xs A c hcell,.val _⟩
        · cases h
      · cases h
  · cases h
theorem foldl_put : ∀ (vs:List Value) (k off:Nat) (cs:Array Value),off+k+vs.length≤cs.size →
    ((vs.zipIdx k).foldl (fun cs (c,j)=>cs.setIfInBounds (off+j) c) cs).toList=cs.toList.take (off+k)++vs++cs.toList.drop (off+k+vs.length)
  | [],k,off,cs,h=>by simp
  | v :: vs,k,off,cs,h=>by
    simp at h
    rw [List.zipIdx_cons,List.foldl_cons,foldl_put vs (k+1) off _ (by simp; omega)]
    have e1:off+(k+1)=off+k+1:=by omega
    have hlt:off+k < cs.toList.length:=by simp; omega
    simp only [Array.toList_setIfInBounds,e1]
    have h1:(cs.toList.set (off+k) v).take (off+k+1)=cs.toList.take (off+k) ++ [v]:=by
      rw [List.take_add_one,List.take_set_of_le (by omega),List.getElem?_set_self hlt]
      rfl
    have h2:(cs.toList.set (off+k) v).drop (off+k+1+vs.length)=cs.toList.drop (off+k+(v :: vs).length):=by
      rw [List.drop_set_of_lt (by omega)]
      congr 1
      simp
      omega
    rw [h1,h2]
    simp
theorem fill_ok(tt:TTOK P E.tt)(hs:Slots S σ l a)(pl:Nat→Option (Nat × Nat))(place:Nat→Option (Nat × Nat))(hp : ∀ i off t ti,pl i=some (off,t)→lookN E.tt t=some ti→place i=some (off,ti.size)) :
    ∀ (ps:List (Nat × Operand)) (us us':List AV) (cs:Array Value),partsAV E (getT l) pl ps us=some us'→RL S σ us cs.toList →
      ∃ cs',Instr.fill place cs (ps.map fun (i,x)=>(i,a.eval x))=some cs'∧RL S σ us' cs'.toList
  | [],us,us',cs,h,hl=>by simp [partsAV] at h; subst h; exact ⟨cs,rfl,hl⟩
  | (i,x) :: ps,us,us',cs,h,hl=>by
    simp only [partsAV] at h
    split at h
    · rename_i off t hpl
      split at h
      · rename_i av hav
        split at h
        · rename_i ns ti hns hti
          split at h
          · rename_i hsz
            split at h
            · rename_i us2 hus
              obtain ⟨h1,h2⟩:=spliceX_eq _ _ _ _ hus
              have hx:=opd_R hs _ _ _ hav
              obtain ⟨hc,_⟩:=cellsOf_ok hns hx
              have hlen:=hc.1
              have hll:=hl.1
              simp at hlen hll
              have hb:off+(a.eval x).cells.size≤cs.size:=by omega
              have hf:=foldl_put (a.eval x).cells.toList 0 off cs (by simpa using hb)
              obtain ⟨cs',hc',hR'⟩:=fill_ok tt hs pl place hp ps us2 us' ((a.eval x).cells.zipIdx.foldl (fun cs (c,j)=>cs.setIfInBounds (off+j) c) cs) h (by
                have e:(a.eval x).cells.zipIdx.foldl (fun cs (c,j)=>cs.setIfInBounds (off+j) c) cs=((a.eval x).cells.toList.zipIdx 0).foldl (fun cs (c,j)=>cs.setIfInBounds (off+j) c) cs:=by
                  rw [← Array.foldl_toList,Array.toList_zipIdx]
                rw [e,hf,h2]
                simp only [Nat.add_zero]
                have:=((hl.take off).append hc).append (hl.drop (off+ns.length))
                simpa [hlen] using this)
              refine ⟨cs',?_,hR'⟩
              simp only [List.map_cons,Instr.fill,hp i off t ti hpl hti]
              rw [if_neg (by simp; omega)]
              exact hc'
            · cases h
          · cases h
        · cases h
      · cases h
    · cases h
theorem zav_R(z:ZK):R S σ (zav z) (zval z):=by cases z; exact .val _; exact .nsl _
theorem zav_RL : ∀ (zs:List ZK),RL S σ (zs.map zav) (zs.map zval)
  | [] => .nil
  | z :: zs => .cons (zav_R z) (zav_RL zs)
theorem places_ok{gs:List Field}(h : ∀ f∈gs,(P.info? f.type).isSome=true) :
    gs.mapM (fun f=>(P.info? f.type).map fun i=>(f.offset,i.size))=some (gs.map fun f=>(f.offset,((P.info? f.type).map (·.size)).getD 0)):=by
  induction gs with
  | nil=>rfl
  | cons g gs ih =>
    obtain ⟨i,hi⟩:=Option.isSome_iff_exists.1 (h g (by simp))
    simp [List.mapM_cons,hi,ih fun f hf=>h f (List.mem_cons_of_mem _ hf)]
theorem built_ok(tt:TTOK P E.tt)(hs:Slots S σ l a)(oi:OI S σ ob w){o:Oper}{t:Nat}{ps:Array (Nat × Operand)}{nb:Nat}{out:Out}(ho:o.op = .build t ps)(h:comp E nb o (getT l) ob=some out) :
    out.c=true∧out.u = [] ∧ ∃ v,(Instr.build t (ps.map fun (i,x)=>(i,a.eval x))).run P w = .ok v w∧R S σ out.v v:=by
  unfold comp at h
  simp only [ho] at h
  split at h
  · rename_i ti hti
    have row:=tt.row hti
    obtain ⟨it,hit,hisz,_,hiz⟩:=row.info
    split at h
    · rename_i fs hd
      split at h
      · rename_i hall
        split at h
        · rename_i us hus
          simp at h; subst h
          obtain ⟨gs,hu,hfs⟩:=row.struct hd
          have hinfo : ∀ f∈gs.toList,(P.info? f.type).isSome=true:=by
            intro f hf
            simp only [hfs,List.all_map,List.all_eq_true] at hall
            have:=hall f hf
            simp only [Function.comp] at this
            obtain ⟨tf,htf⟩:=Option.isSome_iff_exists.1 this
            obtain ⟨i,hi,_⟩:=(tt.row htf).info
            simp [hi]
          have hpl:=places_ok hinfo
          obtain ⟨cs',hf,hR⟩:=fill_ok tt hs _ (fun i=>(gs.toList.map fun f=>(f.offset,((P.info? f.type).map (·.size)).getD 0))[i]?) (fun i off t' ti' h1 h2=>by
              rw [hfs,List.getElem?_map] at h1
              rw [List.getElem?_map]
              cases hg:gs.toList[i]? with
              | none=>simp [hg] at h1
              | some f =>
                simp [hg] at h1 ⊢
                obtain ⟨rfl,rfl⟩:=h1
                obtain ⟨i',hi',hs',_⟩:=(tt.row h2).info
                simp [hi',hs']) ps.toList _ us ti.zero.cells hus (by rw [row.c]; exact zav_RL _)
          refine ⟨rfl,rfl,_,run_build w t _ cs' ?_,.agg _ cs'.toList hR.1 hR.2⟩
          unfold Program.built
          simp only [hit,hu,hiz,hpl,Array.toList_map]
          simpa using hf
        · cases h
      · cases h
    · rename_i n e hd
      have hu:=row.array hd
      split at h
      · rename_i te hte
        obtain ⟨ie,hie,hies,_,_⟩:=(tt.row hte).info
        split at h
        · rename_i us hus
          simp at h; subst h
          obtain ⟨cs',hf,hR⟩:=fill_ok tt hs _ (fun i=>some (i * ie.size,ie.size)) (fun i off t' ti' h1 h2=>by
              simp at h1
              obtain ⟨rfl,rfl⟩:=h1
              rw [hte] at h2
              obtain rfl:=Option.some.inj h2
              simp [hies]) ps.toList _ us ti.zero.cells hus (by rw [row.c]; exact zav_RL _)
          refine ⟨rfl,rfl,_,run_build w t _ cs' ?_,.agg _ cs'.toList hR.1 hR.2⟩
          unfold Program.built
          simp only [hit,hu,hiz,hie,Array.toList_map]
          simpa using hf
        · cases h
      · cases h
    · cases h
  · cases h
theorem madeCells_list(z:List Value) : ∀ (n:Nat),0 < z.length→(madeCells z.toArray (n * z.length)).toList=(List.replicate n z).flatten:=by
  intro n hz
  apply List.ext_getElem?
  intro i
  have hrep : ∀ (n:Nat) (i:Nat),i < n * z.length→(List.replicate n z).flatten[i]? = z[i % z.length]? := by
    intro n
    induction n with
    | zero=>intro i h; simp at h
    | succ n ih =>
      intro i h
      rw [List.replicate_succ,List.flatten_cons]
      by_cases hi:i < z.length
      · rw [List.getElem?_append_left hi,Nat.mod_eq_of_lt hi]
      · rw [Nat.add_mul] at h
        rw [List.getElem?_append_right (by omega),ih _ (by omega),← Nat.mod_eq_sub_mod (by omega)]
  have hlen:((List.replicate n z).flatten).length=n * z.length:=by simp
  by_cases hi:i < n * z.length
  · rw [hrep n i hi]
    have hm:i % z.length < z.length:=Nat.mod_lt _ hz
    simp [madeCells,hi,hm]
  · rw [List.getElem?_eq_none (by simp [madeCells]; omega),List.getElem?_eq_none (by rw [hlen]; omega)]
theorem flat_replicate(cs:List CK)(n:Nat)(e:Elem cs):flat cs (List.replicate n e)=(List.replicate n (vals cs e)).flatten:=by
  induction n with
  | zero=>simp [flat]
  | succ n ih=>rw [List.replicate_succ,flat_cons,ih,List.replicate_succ,List.flatten_cons]
theorem made_ok{e:Nat}{te:TI}(row:RowOK P e te)(n:Nat)(h:0 < n * te.size):(madeCells te.zero.cells (n * te.size)).toList=(List.replicate n (te.z.map zval)).flatten:=by
  have hz:te.zero.cells=(te.z.map zval).toArray:=by apply Array.toList_inj.1; simpa using row.c
  have hl:(te.z.map zval).length=te.size:=by simp [row.z]
  have:=madeCells_list (te.z.map zval) n (by rw [hl]; exact Nat.pos_of_mul_pos_left h)
  rw [hz,← hl]
  exact this
end Go.Proofs.YtkjnijddbiconaaGreatDoor.Ev
