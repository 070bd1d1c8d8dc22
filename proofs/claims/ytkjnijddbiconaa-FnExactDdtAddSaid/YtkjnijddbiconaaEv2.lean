/- The evaluator: one operation, a region, code, a call. Definitions alone. -/
import Derived.Test.YtkjnijddbiconaaEv1
namespace Go.Proofs.Ytkjnijddbiconaa.Ev
open Go

/-! ### Slices and indices -/
def intOfAV : AV → Option Int
  | .val (.int _ n) => some n
  | _ => none
/-- An optional bound. -/
def boundA (E : Env) (tm : Tm) (d : Int) : Option Operand → Option Int
  | none => some d
  | some x => match opd E tm 0 x with
    | some a => intOfAV a
    | none => none
/-- The kinds of a row. -/
def kindO (ob : Ob) (o : Nat) : List CK :=
  match ob o with
  | some (.row cs _) => cs
  | _ => []
def cutA (ob : Ob) (sz : Nat) (x : AV) (l : Int) (h : Int) (n : Nat) (m : Int) : Option CV :=
  let c := decide (0 ≤ l ∧ l ≤ h ∧ h ≤ m ∧ m ≤ (n : Int))
  match x with
  | .nsl cs => some (c, .nsl cs)
  | .rsl cs xs => if cs.length = sz then some (c, .rsl cs ((xs.take h.toNat).drop l.toNat)) else none
  | .ows o => if (kindO ob o).length = sz ∧ 0 < sz then some (c, .osl o l.toNat (h - l).toNat) else none
  | .osl o lo _ => if (kindO ob o).length = sz ∧ 0 < sz then some (c, .osl o (lo + l.toNat) (h - l).toNat) else none
  | _ => none
def cutS (s : ByteArray) (l h : Int) : Option CV :=
  some (decide (0 ≤ l ∧ l ≤ h ∧ h ≤ (s.size : Int)), .val (.string (s.extract l.toNat h.toNat)))
def sliceA (E : Env) (tm : Tm) (ob : Ob) (t : Nat) (x : AV) (lo hi mx : Option Operand) : Option CV :=
  match lookN E.tt t with
  | some ⟨.array n e, _, _, _, _⟩ => match lo, hi, mx, lookN E.tt e with
    | none, none, none, some ti => if ti.cks.length = ti.size ∧ 0 < ti.size then match x with
      | .ptr o j => some (true, .bsl o j ti.cks n)
      | .rpt us => match elemsX ti.cks n us with
        | some xs => some (true, .rsl ti.cks xs)
        | none => none
      | .rel us => match elemsX ti.cks n (us.map .val) with
        | some xs => some (true, .rsl ti.cks xs)
        | none => none
      | _ => none
      else none
    | _, _, _, _ => none
  | some ⟨.str, _, _, _, _⟩ => match x, mx with
    | .val (.string s), none => match boundA E tm 0 lo, boundA E tm s.size hi with
      | some l, some h => cutS s l h
      | _, _ => none
    | _, _ => none
  | some ⟨.slice e, _, _, _, _⟩ => match lookN E.tt e, lenAV ob x with
    | some ti, some n => match mx.isSome && hi.isNone with
      | true => none
      | false => match boundA E tm 0 lo, boundA E tm n hi, boundA E tm n mx with
        | some l, some h, some m => cutA ob ti.size x l h n m
        | _, _, _ => none
    | _, _ => none
  | _ => none
def condV (c : Bool) (a : Option AV) : Option CV :=
  match a with
  | some v => some (c, v)
  | none => none
def indexAddrA (E : Env) (ob : Ob) (t : Nat) (x : AV) (i : Int) : Option CV :=
  match lookN E.tt t with
  | some ⟨.array n e, _, _, _, _⟩ => match lookN E.tt e with
    | some ti => condV (decide (0 ≤ i ∧ i < (n : Int))) (addOff (i.toNat * ti.size) x)
    | none => none
  | some ⟨.slice e, _, _, _, _⟩ => match lookN E.tt e, lenAV ob x with
    | some ti, some n =>
      let c := decide (0 ≤ i ∧ i < (n : Int))
      match x with
      | .rsl cs xs => if cs.length = ti.size ∧ 0 < ti.size then some (c, .rel (vals cs (xs.getD i.toNat (edflt cs)))) else none
      | .ows o => if (kindO ob o).length = ti.size ∧ 0 < ti.size then some (c, .oel o i.toNat 0) else none
      | .osl o lo _ => if (kindO ob o).length = ti.size ∧ 0 < ti.size then some (c, .oel o (lo + i.toNat) 0) else none
      | .bsl o j cs _ => if cs.length = ti.size then some (c, .ptr o (j + i.toNat * ti.size)) else none
      | _ => none
    | _, _ => none
  | _ => none
def partA (ti : TI) (off : Nat) (us : List AV) : Option AV :=
  match takeX ti.size (us.drop off) with
  | some r => ofCells ti r
  | none => none
def indexA (E : Env) (t : Nat) (x : AV) (i : Int) : Option CV :=
  match x with
  | .val (.string s) => match lookN E.tt t with
    | some ⟨.str, _, _, _, _⟩ => some (decide (0 ≤ i ∧ i < (s.size : Int)), .val (.int .u8 (byteAt s i)))
    | _ => none
  | .agg us => match lookN E.tt t with
    | some ⟨.array n e, _, _, _, _⟩ => match lookN E.tt e with
      | some ti => condV (decide (0 ≤ i ∧ i < (n : Int))) (partA ti (i.toNat * ti.size) us)
      | none => none
    | _ => none
  | _ => none
def fieldOf (E : Env) (t f : Nat) : Option (Nat × Nat × Nat) :=
  match lookN E.tt t with
  | some ⟨.struct fs, _, _, _, _⟩ => fs[f]?
  | _ => none

/-! ### Names -/
def visitL (g : List Nat → AV → List Nat) : List Nat → List AV → List Nat
  | acc, [] => acc
  | acc, a :: az => visitL g (g acc a) az
/-- The names that a value reaches, in order. -/
def visit : Nat → Ob → List Nat → AV → List Nat
  | 0, _, acc, _ => acc
  | d + 1, ob, acc, a =>
    match a with
    | .ows o | .osl o _ _ | .oel o _ _ => if acc.contains o then acc else acc ++ [o]
    | .ptr o _ | .bsl o _ _ _ => if acc.contains o then acc else match ob o with
      | some (.box us) => visitL (visit d ob) (acc ++ [o]) us
      | _ => acc ++ [o]
    | .agg us | .fn _ us | .tup us => visitL (visit d ob) acc us
    | _ => acc
def depth : Nat := 6
def renL (g : AV → AV) : List AV → List AV
  | [] => []
  | a :: az => g a :: renL g az
/-- Every name gets a new one; what gets none becomes junk. -/
def ren (ρ : Nat → Option Nat) : Nat → AV → AV
  | 0, _ => .junk
  | d + 1, a =>
    match a with
    | .ows o => match ρ o with | some q => .ows q | none => .junk
    | .osl o lo n => match ρ o with | some q => .osl q lo n | none => .junk
    | .oel o i j => match ρ o with | some q => .oel q i j | none => .junk
    | .ptr o j => match ρ o with | some q => .ptr q j | none => .junk
    | .bsl o j cs n => match ρ o with | some q => .bsl q j cs n | none => .junk
    | .agg us => .agg (renL (ren ρ d) us)
    | .fn f us => .fn f (renL (ren ρ d) us)
    | .tup us => .tup (renL (ren ρ d) us)
    | .rpt us => .rpt (renL (ren ρ d) us)
    | a => a
def renO (ρ : Nat → Option Nat) : AO → AO
  | .row cs xs => .row cs xs
  | .box us => .box (renL (ren ρ depth) us)
def ixFrom : Nat → List Nat → Nat → Option Nat
  | _, [], _ => none
  | q, a :: r, o => if Nat.beq a o then some q else ixFrom (q + 1) r o
def nodupB : List Nat → Bool
  | [] => true
  | a :: az => !az.contains a && nodupB az
def getOb (ob : Ob) : List Nat → Option (List AO)
  | [] => some []
  | o :: r => match ob o with
    | some x => match getOb ob r with
      | some xs => some (x :: xs)
      | none => none
    | none => none
def mapX {α β : Type} (g : α → Option β) : List α → Option (List β)
  | [] => some []
  | a :: az => match g a with
    | some b => match mapX g az with
      | some bs => some (b :: bs)
      | none => none
    | none => none
/-- A value as it is handed to a function that only reads. -/
def roOf : Nat → Ob → AV → Option AV
  | 0, _, _ => none
  | d + 1, ob, a =>
    match a with
    | .ows o => match ob o with
      | some (.row cs xs) => some (.rsl cs xs)
      | _ => none
    | .osl o lo n => match ob o with
      | some (.row cs xs) => some (.rsl cs ((xs.drop lo).take n))
      | _ => none
    | .nsl cs => some (.rsl cs [])
    | .bsl o j cs n => match ob o with
      | some (.box us) => match elemsX cs n (us.drop j) with
        | some xs => some (.rsl cs xs)
        | none => none
      | _ => none
    | .oel o i j => match ob o with
      | some (.row cs xs) => some (.rel ((vals cs (xs.getD i (edflt cs))).drop j))
      | _ => none
    | .ptr o j => match ob o with
      | some (.box us) => match mapX (roOf d ob) (us.drop j) with
        | some vs => some (.rpt vs)
        | none => none
      | _ => none
    | .agg us => match mapX (roOf d ob) us with
      | some vs => some (.agg vs)
      | none => none
    | .fn f us => match mapX (roOf d ob) us with
      | some vs => some (.fn f vs)
      | none => none
    | .tup _ => none
    | .rpt us => match mapX (roOf d ob) us with
      | some vs => some (.rpt vs)
      | none => none
    | a => some a
def noRefL (g : AV → Bool) : List AV → Bool
  | [] => true
  | a :: az => g a && noRefL g az
/-- A value that reaches no memory that is read only. -/
def noMem : Nat → AV → Bool
  | 0, _ => false
  | d + 1, a =>
    match a with
    | .rsl .. | .rel _ | .rpt _ => false
    | .agg us | .tup us | .fn _ us => noRefL (noMem d) us
    | _ => true
def noMemO : AO → Bool
  | .row .. => true
  | .box us => noRefL (noMem depth) us

/-! ### Calls -/
/-- What is called, with what: the function, its arguments, the objects that it takes over, their names. -/
structure Pre where
  f : Nat
  args : List AV
  obs : List AO
  acc : List Nat
def outAt : List (Option Nat) → List Nat → Nat → Option Nat
  | some q :: os, a :: az, p => if Nat.beq q p then some a else outAt os az p
  | none :: os, _ :: az, p => outAt os az p
  | _, _, _ => none
def dead : List (Option Nat) → List Nat → List (Nat × Option AO)
  | none :: os, a :: az => (a, none) :: dead os az
  | some _ :: os, _ :: az => dead os az
  | _, _ => []
def backs (ρ : Nat → Option Nat) (nm : Nat → Nat) : Nat → List AO → List (Nat × Option AO)
  | _, [] => []
  | q, x :: xs => (nm q, some (renO ρ x)) :: backs ρ nm (q + 1) xs
def preOf (E : Env) (f : Nat) (args : List AV) (ob : Ob) : Option Pre :=
  if E.io.contains f then
    let acc := visitL (visit depth ob) [] args
    match nodupB acc, getOb ob acc with
    | true, some os => some ⟨f, renL (ren (ixFrom 0 acc) depth) args, os.map (renO (ixFrom 0 acc)), acc⟩
    | _, _ => none
  else match mapX (roOf depth ob) args with
    | some az => some ⟨f, az, [], []⟩
    | none => none
/-- What the caller has then. -/
def postOf (io : Bool) (nb : Nat) (p : Pre) (r : Res) : Option (AV × List (Nat × Option AO)) :=
  match (io || (noMem depth r.av && r.obs.all noMemO)) && Nat.blt r.obs.length 1000 && Nat.beq r.outs.length p.acc.length && nodupB (r.outs.filterMap id) with
  | true =>
    let nm := fun q => (outAt r.outs p.acc q).getD (nb + q)
    let ρ := fun q => if Nat.blt q r.obs.length then some (nm q) else none
    some (ren ρ depth r.av, dead r.outs p.acc ++ backs ρ nm 0 r.obs)
  | false => none
def opdL (E : Env) (tm : Tm) : List Nat → List Operand → Option (List AV)
  | _, [] => some []
  | [], x :: xs => match opd E tm 0 x with
    | some a => match opdL E tm [] xs with
      | some az => some (a :: az)
      | none => none
    | none => none
  | t :: ts, x :: xs => match opd E tm t x with
    | some a => match opdL E tm ts xs with
      | some az => some (a :: az)
      | none => none
    | none => none
def calleeOf (E : Env) (o : Oper) (tm : Tm) : Option (Nat × List AV) :=
  match o.op with
  | .call ⟨.value fv, args, ts⟩ => match opd E tm 0 fv, opdL E tm ts.toList args.toList with
    | some (.fn f caps), some az => some (f, az ++ caps)
    | _, _ => none
  | _ => none
def isCall (o : Oper) : Bool :=
  match o.op with
  | .call ⟨.value _, _, _⟩ => true
  | _ => false
/-- What comes of an operation: a condition, the value, what becomes of objects. -/
structure Out where
  c : Bool
  v : AV
  u : List (Nat × Option AO)
/-- append: what is appended to, what is appended. -/
def appendA (E : Env) (nb t : Nat) (ob : Ob) (s x : AV) : Option Out :=
  match kindsOf E t with
  | some (ti, cs) =>
    if cs.length = ti.size ∧ 0 < ti.size ∧ 0 < ti.bytes then
    match (match s with
      | .nsl _ => some ([], [])
      | .ows o => match elems ob cs s with
        | some xs => some (xs, [(o, none)])
        | none => none
      | .osl o 0 _ => match elems ob cs s with
        | some xs => some (xs, [(o, none)])
        | none => none
      | _ => none : Option (List (Elem cs) × List (Nat × Option AO))) with
    | some (xs, fr) => match elems ob cs x with
      | some ys => some ⟨decide ((xs.length + ys.length) * ti.bytes ≤ 140737488355328), .ows nb, fr ++ [(nb, some (.row cs (xs ++ ys)))]⟩
      | none => none
    | none => none
    else none
  | none => none
/-- A row whose elements from lo on, n of them, are zero. -/
def zapR (cs : List CK) (xs : List (Elem cs)) (lo n : Nat) : List (Elem cs) := xs.take lo ++ List.replicate n (edflt cs) ++ xs.drop (lo + n)
def builtinA (E : Env) (nb : Nat) (ob : Ob) (b : Builtin) (ts : List Nat) (args : List AV) : Option Out :=
  match b, args with
  | .len, [a] => match ts with
    | [t] => match lookN E.tt t with
      | some ⟨.array n _, _, _, _, _⟩ => some ⟨true, .val (.int .i64 n), []⟩
      | some ⟨.slice _, _, _, _, _⟩ => match a with
        | .val _ => none
        | a => match lenAV ob a with
          | some n => some ⟨true, .val (.int .i64 n), []⟩
          | none => none
      | some ⟨.str, _, _, _, _⟩ => match a with
        | .val (.string s) => some ⟨true, .val (.int .i64 s.size), []⟩
        | _ => none
      | _ => none
    | _ => none
  | .append, [s, x] => match ts with
    | [t, t'] => if t = t' then appendA E nb t ob s x else none
    | _ => none
  | .min, [.val (.int k a), .val (.int k' b)] => if k = k' then some ⟨true, .val (.int k (if b < a then b else a)), []⟩ else none
  | .max, [.val (.int k a), .val (.int k' b)] => if k = k' then some ⟨true, .val (.int k (if b > a then b else a)), []⟩ else none
  | .clear, [.osl o lo n] => match ts with
    | [t] => match kindsOf E t, ob o with
      | some (ti, cs), some (.row cs' xs) => if cs' = cs ∧ cs.length = ti.size ∧ 0 < ti.size then some ⟨true, .val (.tuple #[]), [(o, some (.row cs' (zapR cs' xs lo n)))]⟩ else none
      | _, _ => none
    | _ => none
  | _, _ => none

/-! ### One operation -/
def partsAV (E : Env) (tm : Tm) (pl : Nat → Option (Nat × Nat)) : List (Nat × Operand) → List AV → Option (List AV)
  | [], us => some us
  | (i, x) :: r, us => match pl i with
    | some (off, t) => match opd E tm t x with
      | some a => match cellsOf a, lookN E.tt t with
        | some ns, some ti => if ns.length = ti.size then
            match spliceX off ns us with
            | some us' => partsAV E tm pl r us'
            | none => none
          else none
        | _, _ => none
      | none => none
    | none => none
def valA (a : Option AV) : Option Out :=
  match a with
  | some v => some ⟨true, v, []⟩
  | none => none
def cvA (a : Option CV) : Option Out :=
  match a with
  | some (c, v) => some ⟨c, v, []⟩
  | none => none
def zeroRow (ti : TI) (n : Nat) : List AV := (List.replicate n (ti.z.map zav)).flatten
/-- All operations but calls of functions. -/
def comp (E : Env) (nb : Nat) (o : Oper) (tm : Tm) (ob : Ob) : Option Out :=
  match o.op with
  | .move x | .assign x => valA (opd E tm o.type x)
  | .pick c a b => match opd E tm 0 c with
    | some (.val (.bool true)) => valA (opd E tm o.type a)
    | some (.val (.bool false)) => valA (opd E tm o.type b)
    | _ => none
  | .alloc t => match lookN E.tt t with
    | some ti => some ⟨true, .ptr nb 0, [(nb, some (.box (ti.z.map zav)))]⟩
    | none => none
  | .box t x => match lookN E.tt t, opd E tm t x with
    | some ti, some a => match cellsOf a with
      | some us => if us.length = ti.size then some ⟨true, .ptr nb 0, [(nb, some (.box us))]⟩ else none
      | none => none
    | _, _ => none
  | .build t ps => match lookN E.tt t with
    | some ti => match ti.d with
      | .struct fs => if fs.all (fun f => (lookN E.tt f.2.2).isSome) then
          match partsAV E tm (fun i => match fs[i]? with | some (off, _, ft) => some (off, ft) | none => none) ps.toList (ti.z.map zav) with
          | some us => some ⟨true, .agg us, []⟩
          | none => none
        else none
      | .array _ e => match lookN E.tt e with
        | some te => match partsAV E tm (fun i => some (i * te.size, e)) ps.toList (ti.z.map zav) with
          | some us => some ⟨true, .agg us, []⟩
          | none => none
        | none => none
      | _ => none
    | none => none
  | .buildSlice t n ps => match kindsOf E t, lookN E.tt t with
    | some (te, cs), some ⟨.slice e, _, _, _, _⟩ => if cs.length = te.size ∧ n * te.size ≤ 16777216 then
        match partsAV E tm (fun i => some (i * te.size, e)) ps.toList (zeroRow te n) with
        | some us => match elemsX cs n us with
          | some xs => some ⟨true, .ows nb, [(nb, some (.row cs xs))]⟩
          | none => none
        | none => none
      else none
    | _, _ => none
  | .load t a => match lookN E.tt t, opd E tm 0 a with
    | some ti, some av => match readAt ob ti.size av with
      | some us => valA (ofCells ti us)
      | none => none
    | _, _ => none
  | .store t a x => match lookN E.tt t, opd E tm 0 a, opd E tm t x with
    | some ti, some av, some xv => match cellsOf xv with
      | some ns => if ns.length = ti.size then match writeAt ob ns av with
          | some u => some ⟨true, .val undef, u⟩
          | none => none
        else none
      | none => none
    | _, _, _ => none
  | .nilCheck x => match opd E tm 0 x with
    | some (.ptr o j) => some ⟨true, .ptr o j, []⟩
    | some (.oel o i j) => some ⟨true, .oel o i j, []⟩
    | some (.rel us) => some ⟨true, .rel us, []⟩
    | some (.rpt us) => some ⟨true, .rpt us, []⟩
    | some (.fn f us) => some ⟨true, .fn f us, []⟩
    | _ => none
  | .binOp op t x y _ => match opd E tm t x, opd E tm t y with
    | some a, some b => cvA (binOpA E op t (isConst y) a b)
    | _, _ => none
  | .unOp op _ x => match opd E tm 0 x with
    | some a => cvA (unOpA op a)
    | none => none
  | .convert src dst x => match opd E tm 0 x with
    | some a => cvA (convA E.tt ob src dst a)
    | none => none
  | .makeInterface t _ => match lookN E.tt t with
    | some ti => match ti.d with
      | .iface => none
      | _ => some ⟨true, .ifc, []⟩
    | none => none
  | .makeFunc (.func f) first caps => if first.size = 0 then match opdL E tm [] caps.toList with
      | some us => some ⟨true, .fn f us, []⟩
      | none => none
    else none
  | .makeSlice t l c => match kindsOf E t, opd E tm 0 l, opd E tm 0 c with
    | some (te, cs), some (.val (.int .i64 n)), some (.val (.int .i64 m)) => if cs.length = te.size ∧ 0 < te.bytes then
        some ⟨decide (0 ≤ n ∧ n ≤ m ∧ (te.bytes : Int) * m ≤ 281474976710656), .ows nb, [(nb, some (.row cs (List.replicate n.toNat (edflt cs))))]⟩
      else none
    | _, _, _ => none
  | .slice t x lo hi mx => match opd E tm t x with
    | some a => cvA (sliceA E tm ob t a lo hi mx)
    | none => none
  | .fieldAddr t x f => match opd E tm 0 x, fieldOf E t f with
    | some a, some (off, sz, _) => if 0 < sz then valA (addOff off a) else none
    | _, _ => none
  | .field t x f => match opd E tm t x, fieldOf E t f with
    | some (.agg us), some (off, _, ft) => match lookN E.tt ft with
      | some ti => valA (partA ti off us)
      | none => none
    | _, _ => none
  | .indexAddr t x i => match opd E tm t x, opd E tm 0 i with
    | some a, some (.val (.int _ n)) => cvA (indexAddrA E ob t a n)
    | _, _ => none
  | .index t x i => match opd E tm t x, opd E tm 0 i with
    | some a, some (.val (.int _ n)) => cvA (indexA E t a n)
    | _, _ => none
  | .extract x i => match opd E tm 0 x with
    | some (.tup us) => valA us[i]?
    | _ => none
  | .call ⟨.builtin b, args, ts⟩ => match opdL E tm ts.toList args.toList with
    | some az => builtinA E nb ob b ts.toList az
    | none => none
  | _ => none
/-- The names that an operation looks at. -/
def refName : AV → List Nat
  | .ows o | .osl o _ _ | .oel o _ _ | .ptr o _ | .bsl o _ _ _ => [o]
  | _ => []
def refOpd (E : Env) (tm : Tm) (x : Operand) : List Nat :=
  match opd E tm 0 x with
  | some a => refName a
  | none => []
def deps (E : Env) (o : Oper) (tm : Tm) (ob : Ob) : List Nat :=
  match o.op with
  | .load _ a => refOpd E tm a
  | .store _ a _ => refOpd E tm a
  | .convert _ _ x => refOpd E tm x
  | .slice _ x _ _ _ => refOpd E tm x
  | .indexAddr _ x _ => refOpd E tm x
  | .call ⟨.value fv, args, ts⟩ => match opd E tm 0 fv, opdL E tm ts.toList args.toList with
    | some (.fn _ caps), some az => visitL (visit depth ob) [] (az ++ caps)
    | _, _ => []
  | .call ⟨.builtin _, args, ts⟩ => match opdL E tm ts.toList args.toList with
    | some az => az.flatMap refName
    | none => []
  | _ => []
def restr (D : List Nat) (ob : Ob) : Ob := fun o => if D.contains o then ob o else none

/-! ### States -/
/-- Slots, objects, the next names, the names of the objects that were handed over. -/
structure St where
  tm : List AV
  ob : List (Nat × AO)
  nx : Nat
  ps : List (Option Nat)
def getT : List AV → Nat → AV
  | [], _ => .junk
  | a :: _, 0 => a
  | _ :: az, n + 1 => getT az n
def setT : List AV → Nat → AV → List AV
  | [], _, _ => []
  | _ :: az, 0, x => x :: az
  | a :: az, n + 1, x => a :: setT az n x
def putT (l : List AV) (d : Option Tmp) (x : AV) : List AV :=
  match d with
  | some s => setT l s x
  | none => l
def putO : List (Nat × AO) → Nat → AO → List (Nat × AO)
  | [], o, x => [(o, x)]
  | (p, y) :: r, o, x => if Nat.beq p o then (o, x) :: r else (p, y) :: putO r o x
def delO : List (Nat × AO) → Nat → List (Nat × AO)
  | [], _ => []
  | (p, y) :: r, o => if Nat.beq p o then delO r o else (p, y) :: delO r o
def updO : List (Nat × AO) → List (Nat × Option AO) → List (Nat × AO)
  | l, [] => l
  | l, (o, some x) :: r => updO (putO l o x) r
  | l, (o, none) :: r => updO (delO l o) r

/-! ### Regions -/
structure POp where
  i : Nat
  o : Oper
  anc : Nat
structure Foot where
  i : Nat
  d : List Nat
  w : List Nat
def bindsAny (e : Edge) : Bool := Region.binds .any e
def ancOf (ms : List Nat) : List Edge → Nat
  | [] => 0
  | e :: es => if bindsAny e then (2 ^ e.on) ||| (ms.getD e.on 0) ||| ancOf ms es else ancOf ms es
def prepFrom : Nat → List Nat → List Oper → List POp
  | _, _, [] => []
  | i, ms, o :: os => let m := ancOf ms o.after.toList; ⟨i, o, m⟩ :: prepFrom (i + 1) (ms ++ [m]) os
def apartL : List Nat → List Nat → Bool
  | [], _ => true
  | a :: az, bs => !bs.contains a && apartL az bs
def okLog (anc : Nat) (d w : List Nat) : List Foot → Bool
  | [] => true
  | f :: fs => (anc.testBit f.i || (apartL f.w d && apartL f.w w && apartL w f.d)) && okLog anc d w fs
def dstOf (ops : List Oper) (g : Nat) : Option Tmp :=
  match ops[g]? with
  | some o => o.dst
  | none => none
/-- Two ways, by a condition that need not be known. -/
def br (b : Bool) (t e : Prop) : Prop :=
  match b with
  | true => t
  | false => e
/-- What calls come to, with what follows them. -/
abbrev Gk := Nat → List AV → List AO → (Res → Prop) → Prop
/-- Which place an index has that is not known: one way for each. -/
def caseFrom (i : Int) : Nat → Nat → (Nat → Prop) → Prop
  | _, 0, _ => False
  | a, n + 1, k => br (i == (a : Int)) (k a) (caseFrom i (a + 1) n k)
/-- The slot of an index into an array, and how long the array is. -/
def arrayIx (E : Env) (o : Oper) : Option (Tmp × Nat) :=
  match o.op with
  | .indexAddr t _ (.tmp s) => match lookN E.tt t with
    | some ⟨.array n _, _, _, _, _⟩ => some (s, n)
    | _ => none
  | .index t _ (.tmp s) => match lookN E.tt t with
    | some ⟨.array n _, _, _, _, _⟩ => some (s, n)
    | _ => none
  | _ => none
abbrev Kl := List Foot → St → Prop
def afterP (draw : Bool) (p : POp) (D : List Nat) (log : List Foot) (st : St) (v : AV) (u : List (Nat × Option AO)) (k : Kl) : Prop :=
  match draw with
  | true => match okLog p.anc D (u.map (·.1)) log with
    | true => k (⟨p.i, D, u.map (·.1)⟩ :: log) ⟨putT st.tm p.o.dst v, updO st.ob u, st.nx, st.ps⟩
    | false => False
  | false => k log ⟨putT st.tm p.o.dst v, updO st.ob u, st.nx, st.ps⟩
def stepP (E : Env) (G : Gk) (nx : Nat) (draw : Bool) (p : POp) (log : List Foot) (st : St) (k : Kl) : Prop :=
  let D := deps E p.o (getT st.tm) (lookN st.ob)
  match isCall p.o with
  | true =>
    match calleeOf E p.o (getT st.tm) with
    | some (f, az) => match preOf E f az (restr D (lookN st.ob)) with
      | some q => G f q.args q.obs fun r => match postOf (E.io.contains f) (nx + p.i * 1000) q r with
        | some (v, u) => afterP draw p D log st v u k
        | none => False
      | none => False
    | none => False
  | false => match comp E (nx + p.i * 1000) p.o (getT st.tm) (restr D (lookN st.ob)) with
    | some ⟨c, v, u⟩ => br c (afterP draw p D log st v u k) False
    | none => False
def runP (E : Env) (G : Gk) (nx : Nat) (draw : Bool) (p : POp) (log : List Foot) (st : St) (k : Kl) : Prop :=
  match arrayIx E p.o with
  | some (s, n) => match getT st.tm s with
    | .val (.int kd i) => caseFrom i 0 n fun a => stepP E G nx draw p log ⟨setT st.tm s (.val (.int kd (a : Int))), st.ob, st.nx, st.ps⟩ k
    | _ => False
  | none => stepP E G nx draw p log st k
def skipP (p : POp) (log : List Foot) (st : St) (k : Kl) : Prop := k log ⟨putT st.tm p.o.dst (.val undef), st.ob, st.nx, st.ps⟩
def opsP (E : Env) (G : Gk) (nx : Nat) (draw : Bool) (all : List Oper) : List POp → List Foot → St → (St → Prop) → Prop
  | [], _, st, k => k st
  | p :: ps, log, st, k =>
    match p.o.guard with
    | none => runP E G nx draw p log st fun log st => opsP E G nx draw all ps log st k
    | some (g, want) => match dstOf all g with
      | some s => match getT st.tm s with
        | .val (.bool b) =>
          br b
            (match want with
              | true => runP E G nx draw p log ⟨setT st.tm s (.val (.bool true)), st.ob, st.nx, st.ps⟩ fun log st => opsP E G nx draw all ps log st k
              | false => skipP p log ⟨setT st.tm s (.val (.bool true)), st.ob, st.nx, st.ps⟩ fun log st => opsP E G nx draw all ps log st k)
            (match want with
              | true => skipP p log ⟨setT st.tm s (.val (.bool false)), st.ob, st.nx, st.ps⟩ fun log st => opsP E G nx draw all ps log st k
              | false => runP E G nx draw p log ⟨setT st.tm s (.val (.bool false)), st.ob, st.nx, st.ps⟩ fun log st => opsP E G nx draw all ps log st k)
        | .val (.tuple _) => skipP p log st fun log st => opsP E G nx draw all ps log st k
        | _ => False
      | none => False
/-- No slot that an operation writes is looked at or written by another one, unless they are ordered. -/
def slotsOf (all : List Oper) (o : Oper) : List Tmp :=
  (o.op.operands.toList.filterMap fun | .tmp t => some t | _ => none) ++
  (match o.guard with
    | some (g, _) => (dstOf all g).toList
    | none => [])
def pairOk (all : List Oper) (p q : POp) : Bool :=
  q.anc.testBit p.i ||
  ((match p.o.dst with
    | some d => !(slotsOf all q.o).contains d && !(q.o.dst == some d)
    | none => true) &&
  (match q.o.dst with
    | some d => !(slotsOf all p.o).contains d
    | none => true))
def pairsOk (all : List Oper) : List POp → Bool
  | [] => true
  | p :: ps => ps.all (pairOk all p) && pairsOk all ps
/-- Orders go back alone. -/
def backOk : Nat → List Oper → Bool
  | _, [] => true
  | i, o :: os => o.after.toList.all (fun e => !bindsAny e || Nat.blt e.on i) && backOk (i + 1) os

/-! ### A loop's head -/
/-- A loop's number: the number of the first region in its body. -/
def firstReg : Code → Option Nat
  | .region id _ _ => some id
  | .seq a b => match firstReg a with
    | some i => some i
    | none => firstReg b
  | .cond _ a b => match firstReg a with
    | some i => some i
    | none => firstReg b
  | .block _ c => firstReg c
  | .loop c => firstReg c
  | _ => none
def isLoop (n : Nat) (c : Code) : Bool :=
  match firstReg c with
  | some i => Nat.beq i n
  | none => false
def hasT : List Tmp → Tmp → Bool
  | [], _ => false
  | a :: az, t => match Nat.beq a t with
    | true => true
    | false => hasT az t
def addT : List Tmp → List Tmp → List Tmp → List Tmp
  | r, _, [] => r
  | r, w, t :: ts => match hasT w t with
    | true => addT r w ts
    | false => match hasT r t with
      | true => addT r w ts
      | false => addT (t :: r) w ts
def opdT : Operand → List Tmp
  | .tmp t => [t]
  | _ => []
/-- Which slots a code reads before it writes them, and which it writes before it reads them, by the text. -/
def firstOps (all : List Oper) : List Oper → List Tmp × List Tmp → List Tmp × List Tmp
  | [], rw => rw
  | o :: os, (r, w) =>
    let r' := addT r w (slotsOf all o)
    firstOps all os (r', match o.dst with
      | some d => addT w r' [d]
      | none => w)
def firsts : Code → List Tmp × List Tmp → List Tmp × List Tmp
  | .region _ ops _, rw => firstOps ops.toList ops.toList rw
  | .seq a b, rw => firsts b (firsts a rw)
  | .cond c a b, (r, w) => firsts b (firsts a (addT r w (opdT c), w))
  | .block _ c, rw => firsts c rw
  | .loop c, rw => firsts c rw
  | .scope c, rw => firsts c rw
  | _, rw => rw
def readsOps (all : List Oper) : List Oper → List Tmp
  | [] => []
  | o :: os => slotsOf all o ++ readsOps all os
/-- What a code reads outside one of its loops. -/
def readsX (n : Nat) : Code → List Tmp
  | .region _ ops _ => readsOps ops.toList ops.toList
  | .seq a b => readsX n a ++ readsX n b
  | .cond c a b => opdT c ++ readsX n a ++ readsX n b
  | .block _ c => readsX n c
  | .loop c => match isLoop n c with
    | true => []
    | false => readsX n c
  | .scope c => readsX n c
  | _ => []
def sansT : List Tmp → List Tmp → List Tmp
  | [], _ => []
  | t :: ts, x => match hasT x t with
    | true => sansT ts x
    | false => t :: sansT ts x
/-- All that a code reads, and writes. -/
def readsC : Code → List Tmp
  | .region _ ops _ => readsOps ops.toList ops.toList
  | .seq a b => readsC a ++ readsC b
  | .cond c a b => opdT c ++ readsC a ++ readsC b
  | .block _ c => readsC c
  | .loop c => readsC c
  | .scope c => readsC c
  | _ => []
def writesC : Code → List Tmp
  | .region _ ops _ => ops.toList.filterMap (·.dst)
  | .seq a b => writesC a ++ writesC b
  | .cond _ a b => writesC a ++ writesC b
  | .block _ c => writesC c
  | .loop c => writesC c
  | .scope c => writesC c
  | _ => []
/-- What can be read when the loop of a number is left. -/
def liveX (n : Nat) : Code → Option (List Tmp)
  | .seq a b => match liveX n a with
    | some r => some (r ++ readsC b)
    | none => liveX n b
  | .cond _ a b => match liveX n a with
    | some r => some r
    | none => liveX n b
  | .block _ c => liveX n c
  | .loop c => match isLoop n c with
    | true => some []
    | false => match liveX n c with
      | some r => some (r ++ readsX n c)
      | none => none
  | .scope c => liveX n c
  | _ => none
/-- The slots that are of no use at a loop's head: the body writes them before it reads them, or does not read them; and nothing behind it does. -/
def jofT (E : Env) (c : Code) : List Tmp :=
  match firstReg c with
  | some n => match liveX n E.code with
    | some r => sansT (sansT ((firsts c ([], [])).2 ++ sansT (writesC E.code) (readsC c)) E.keep) r
    | none => []
  | none => []
/-- What is still read behind a place: behind the end, behind each exit, behind a return. -/
structure LK where
  nor : List Tmp
  exs : List (Nat × List Tmp)
  ret : List Tmp
def unT : List Tmp → List Tmp → List Tmp
  | r, [] => r
  | r, t :: ts => match hasT r t with
    | true => unT r ts
    | false => unT (t :: r) ts
def liveOps (all : List Oper) : List Oper → List Tmp → List Tmp
  | [], l => l
  | o :: os, l =>
    let r := liveOps all os l
    unT (match o.dst with
      | some d => sansT r [d]
      | none => r) (slotsOf all o)
def liveIn : Code → LK → List Tmp
  | .skip, k => k.nor
  | .region _ ops _, k => liveOps ops.toList ops.toList k.nor
  | .seq a b, k => liveIn a ⟨liveIn b k, k.exs, k.ret⟩
  | .cond c a b, k => unT (unT (liveIn a k) (liveIn b k)) (opdT c)
  | .block id c, k => liveIn c ⟨k.nor, (id, k.nor) :: k.exs, k.ret⟩
  | .loop c, k => liveIn c ⟨[], k.exs, k.ret⟩
  | .exit id, k => match lookN k.exs id with
    | some l => l
    | none => []
  | .ret, k => k.ret
  | .scope c, k => liveIn c k
  | _, _ => []
/-- What is still read at the head of the loop of a number. -/
def liveAt (n : Nat) : Code → LK → Option (List Tmp)
  | .seq a b, k => match liveAt n a ⟨liveIn b k, k.exs, k.ret⟩ with
    | some r => some r
    | none => liveAt n b k
  | .cond _ a b, k => match liveAt n a k with
    | some r => some r
    | none => liveAt n b k
  | .block id c, k => liveAt n c ⟨k.nor, (id, k.nor) :: k.exs, k.ret⟩
  | .loop c, k => match isLoop n c with
    | true => some (liveIn c ⟨[], k.exs, k.ret⟩)
    | false => liveAt n c ⟨liveIn c ⟨[], k.exs, k.ret⟩, k.exs, k.ret⟩
  | .scope c, k => liveAt n c k
  | _, _ => none
def upTo : Nat → List Tmp
  | 0 => []
  | n + 1 => n :: upTo n
/-- The slots that are of no use at a loop's head, by what is read from there on. -/
def jofL (E : Env) (c : Code) : List Tmp :=
  match firstReg c with
  | some n => match liveAt n E.code ⟨E.keep, [], E.keep⟩ with
    | some r => sansT (unT (upTo 12) (writesC E.code)) r
    | none => []
  | none => []
def jof (E : Env) (c : Code) : List Tmp :=
  match hasT E.io 1000000 with
  | true => jofL E c
  | false => jofT E c
def junkT : List AV → List Tmp → List AV
  | l, [] => l
  | l, s :: ss => junkT (setT l s .junk) ss
def denilL (g : Nat → AV → AV × List (Nat × AO) × Nat) : Nat → List AV → List AV × List (Nat × AO) × Nat
  | n, [] => ([], [], n)
  | n, a :: az => let r := g n a; let s := denilL g r.2.2 az; (r.1 :: s.1, r.2.1 ++ s.2.1, s.2.2)
/-- nil slices become empty rows of their own; n counts the names. -/
def denil : Nat → Nat → AV → AV × List (Nat × AO) × Nat
  | 0, n, a => (a, [], n)
  | d + 1, n, a =>
    match a with
    | .nsl cs => (.ows n, [(n, .row cs [])], n + 1)
    | .agg us => let r := denilL (denil d) n us; (.agg r.1, r.2.1, r.2.2)
    | .tup us => let r := denilL (denil d) n us; (.tup r.1, r.2.1, r.2.2)
    | a => (a, [], n)
def denilO : Nat → List (Nat × AO) → List (Nat × AO) × List (Nat × AO) × Nat
  | n, [] => ([], [], n)
  | n, (o, .box us) :: r => let x := denilL (denil depth) n us; let s := denilO x.2.2 r; ((o, .box x.1) :: s.1, x.2.1 ++ s.2.1, s.2.2)
  | n, (o, .row cs xs) :: r => let s := denilO n r; ((o, .row cs xs) :: s.1, s.2.1, s.2.2)
def number : Nat → List AO → List (Nat × AO)
  | _, [] => []
  | q, x :: xs => (q, x) :: number (q + 1) xs
def start : Nat := 1000000
/-- The whole state without nil slices, its names from 0 on by their order. -/
def visitP (ob : Ob) : List Nat → List (Option Nat) → List Nat
  | acc, [] => acc
  | acc, some o :: r => match ob o with
    | some _ => visitP ob (visit depth ob acc (.ptr o 0)) r
    | none => visitP ob acc r
  | acc, none :: r => visitP ob acc r
def renP (ρ : Nat → Option Nat) : List (Option Nat) → List (Option Nat)
  | [] => []
  | some o :: r => ρ o :: renP ρ r
  | none :: r => none :: renP ρ r
def canon (st : St) : Option St :=
  let a := denilL (denil depth) st.nx st.tm
  let b := denilO a.2.2 st.ob
  let ob := b.1 ++ a.2.1 ++ b.2.1
  let acc := visitL (visit depth (lookN ob)) (visitP (lookN ob) [] st.ps) a.1
  match nodupB acc && Nat.blt acc.length start, getOb (lookN ob) acc with
  | true, some os => some ⟨renL (ren (ixFrom 0 acc) depth) a.1, number 0 (os.map (renO (ixFrom 0 acc))), start, renP (ixFrom 0 acc) st.ps⟩
  | _, _ => none
def head (ts : List Tmp) (st : St) : Option St := canon ⟨junkT st.tm ts, st.ob, st.nx, st.ps⟩

/-! ### Code -/
inductive Ex
  | normal
  | exit (n : Nat)
  | ret
abbrev Kt := Ex → St → Prop
def condOf (E : Env) (tm : Tm) (c : Operand) : Option Bool :=
  match opd E tm 0 c with
  | some (.val (.bool b)) => some b
  | _ => none
/-- What a loop comes to: its body, the state at its head, what follows. -/
abbrev Lp := Code → St → Kt → Prop
def seqK (b : St → Kt → Prop) (k : Kt) : Kt := fun e st =>
  match e with
  | .normal => b st k
  | e => k e st
def blockK (id : Nat) (k : Kt) : Kt := fun e st =>
  match e with
  | .exit i => match Nat.beq i id with
    | true => k .normal st
    | false => k (.exit i) st
  | e => k e st
def atHead (L : St → Prop) (s : Option St) : Prop :=
  match s with
  | some st => L st
  | none => False
def regionP (E : Env) (G : Gk) (ops : List Oper) (draw : Bool) (st : St) (k : St → Prop) : Prop :=
  match Nat.blt ops.length 1000 with
  | true => match draw with
    | true => match pairsOk ops (prepFrom 0 [] ops) && backOk 0 ops with
      | true => opsP E G st.nx true ops (prepFrom 0 [] ops) [] st k
      | false => False
    | false => opsP E G st.nx false ops (prepFrom 0 [] ops) [] st k
  | false => False
def evP (E : Env) (G : Gk) (L : Lp) : Code → St → Kt → Prop
  | .skip, st, k => k .normal st
  | .region _ ops draw, st, k => regionP E G ops.toList draw st fun st' => k .normal ⟨st'.tm, st'.ob, st.nx + 1000000, st.ps⟩
  | .seq a b, st, k => evP E G L a st (seqK (evP E G L b) k)
  | .cond c a b, st, k => match condOf E (getT st.tm) c with
    | some x => br x (evP E G L a st k) (evP E G L b st k)
    | none => False
  | .block id c, st, k => evP E G L c st (blockK id k)
  | .loop c, st, k => atHead (fun st => L c st k) (head (jof E c) st)
  | .exit id, st, k => k (.exit id) st
  | .ret, st, k => k .ret st
  | _, _, _ => False
/-- The body of the loop of a number. -/
def loopOf (n : Nat) : Code → Option Code
  | .seq a b => match loopOf n a with
    | some c => some c
    | none => loopOf n b
  | .cond _ a b => match loopOf n a with
    | some c => some c
    | none => loopOf n b
  | .block _ c => loopOf n c
  | .loop c => match isLoop n c with
    | true => some c
    | false => loopOf n c
  | _ => none
def hasLoop (n : Nat) (c : Code) : Bool :=
  match loopOf n c with
  | some _ => true
  | none => false
/-- What follows the loop of a number. -/
def contOf (E : Env) (G : Gk) (L : Lp) (n : Nat) : Code → Kt → Kt
  | .seq a b, k => match hasLoop n a with
    | true => contOf E G L n a (seqK (evP E G L b) k)
    | false => contOf E G L n b k
  | .cond _ a b, k => match hasLoop n a with
    | true => contOf E G L n a k
    | false => contOf E G L n b k
  | .block id c, k => contOf E G L n c (blockK id k)
  | .loop c, k => match isLoop n c with
    | true => k
    | false => contOf E G L n c (seqK (fun st k => atHead (fun st => L c st k) (head (jof E c) st)) k)
  | _, k => k

/-! ### Functions -/
def resultAV (E : Env) (st : St) : ResultVar → Option AV
  | .tmp t => some (getT st.tm t)
  | .cell a t => match lookN E.tt t with
    | some ti => match readAt (lookN st.ob) ti.size (getT st.tm a) with
      | some us => ofCells ti us
      | none => none
    | none => none
def resultsAV (E : Env) (st : St) (rs : List ResultVar) : Option AV :=
  match mapX (resultAV E st) rs with
  | some [v] => some v
  | some vs => some (.tup vs)
  | none => none
/-- What is left of the objects that were handed over, beside what the result reaches: their numbers. -/
def outsOf (ob : Ob) : List (Option Nat) → List Nat → List (Option Nat) × List Nat
  | [], acc => ([], acc)
  | none :: r, acc => let s := outsOf ob r acc; (none :: s.1, s.2)
  | some o :: r, acc =>
    if acc.contains o then let s := outsOf ob r acc; (none :: s.1, s.2)
    else match ob o with
      | some _ => let s := outsOf ob r (visit depth ob acc (.ptr o 0)); (some acc.length :: s.1, s.2)
      | none => let s := outsOf ob r acc; (none :: s.1, s.2)
def okOuts (acc : List Nat) : List (Option Nat) → List (Option Nat) → Bool
  | [], [] => true
  | none :: os, _ :: ps => okOuts acc os ps
  | some q :: os, some o :: ps => (match ixFrom 0 acc o with | some q' => Nat.beq q q' | none => false) && okOuts acc os ps
  | _, _ => false
def finish (E : Env) (rs : List ResultVar) (st : St) : Option Res :=
  match resultsAV E st rs with
  | some v =>
    let a := denil depth st.nx v
    let b := denilO a.2.2 st.ob
    let ob := b.1 ++ a.2.1 ++ b.2.1
    let r := outsOf (lookN ob) st.ps (visit depth (lookN ob) [] a.1)
    match nodupB r.2 && okOuts r.2 r.1 st.ps, getOb (lookN ob) r.2 with
    | true, some os => some ⟨ren (ixFrom 0 r.2) depth a.1, os.map (renO (ixFrom 0 r.2)), r.1⟩
    | _, _ => none
  | none => none
def handed : Nat → List AO → List (Option Nat)
  | _, [] => []
  | q, _ :: r => some q :: handed (q + 1) r
def initSt (n : Nat) (args : List AV) (obs : List AO) : St := ⟨args ++ List.replicate (n - args.length) (.val undef), number 0 obs, start, handed 0 obs⟩
/-- What a function's end comes to. -/
def endK (E : Env) (rs : List ResultVar) (R : Option Res → Prop) : Kt := fun e st =>
  match e with
  | .normal => R (finish E rs st)
  | .ret => R (finish E rs st)
  | .exit _ => False
def codeOf (fn : Func) : Code := match fn.body with | some c => c | none => .refuse ""
def resT : List ResultVar → List Tmp
  | [] => []
  | .tmp t :: r => t :: resT r
  | .cell a _ :: r => a :: resT r
/-- The same for one function. -/
def Env.of (E : Env) (fn : Func) : Env := ⟨E.tt, E.io, E.eqs, codeOf fn, resT fn.results.toList⟩
def bodyP (E : Env) (G : Gk) (L : Lp) (fn : Func) (args : List AV) (obs : List AO) (R : Option Res → Prop) : Prop :=
  evP (E.of fn) G L (codeOf fn) (initSt fn.ntmps args obs) (endK (E.of fn) fn.results.toList R)
end Go.Proofs.Ytkjnijddbiconaa.Ev
