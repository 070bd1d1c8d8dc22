/- The law of CoreRootRead: lines of a root. -/
import Derived.Test.YtkjnijddbiconaaGreatDoorW3
import Derived.Test.YtkjnijddbiconaaGreatDoorR1
namespace Go.Proofs.YtkjnijddbiconaaGreatDoor.Ev
open Go
set_option linter.unusedVariables false
set_option linter.unusedSimpArgs false
set_option maxRecDepth 100000
set_option maxHeartbeats 1000000
def E2 : Env := ⟨tt, [1000000, 94, 98], E0.eqs, .skip, []⟩
theorem ok2 : Ok Tryz.prog E2 := ⟨ttOK, eqsOK, by kernel_rfl⟩
def wn (l : ByteArray) : Nat := (cutL l 32).length
def isP (l : ByteArray) : Bool := ((wn l : Int) == 2) && strEq (wd l 32 0) ⟨#[46]⟩
def is4 (l : ByteArray) : Bool := (wn l : Int) == 4
def frO (t : ByteArray) : ByteArray := match isD t with
  | true => ByteArray.empty
  | false => t
def kcE (l : ByteArray) (k : Int) : Elem kc := (wd l 32 0, k, frO (wd l 32 2), 0, 0, 0, 0, 0, 0, 0, 0, 0, 0, 0, 0, 0, 0, 0, 0, 0, 0, 0, 0, 0, 0, 0, 0, prV (wd l 32 3) 0, prV (wd l 32 3) 1, prV (wd l 32 3) 2, false, ())
def ptE (t : ByteArray) : Elem k3 := (prV t 0, prV t 1, prV t 2, ())
def lnK (l : ByteArray) : Bool := match isP l with
  | true => prK (wd l 32 1)
  | false => match is4 l with
    | true => numK (wd l 32 1) && prK (wd l 32 3)
    | false => false
def lnSS (s : List (Elem kc)) (l : ByteArray) : List (Elem kc) := match isP l with
  | true => s
  | false => match is4 l with
    | true => s ++ [kcE l (numN (wd l 32 1))]
    | false => s
def lnPP (p : List (Elem k3)) (l : ByteArray) : List (Elem k3) := match isP l with
  | true => p ++ [ptE (wd l 32 1)]
  | false => p
def liK (l : ByteArray) : Bool := match isP l with
  | true => prK (wd l 32 1)
  | false => match is4 l with
    | true => prK (wd l 32 3) && atK (wd l 32 1)
    | false => false
def liL (l : ByteArray) : Bool := prK (wd l 32 (wn l - 1))
def liS (s : List (Elem kc)) (l : ByteArray) : List (Elem kc) := match isP l with
  | true => s
  | false => match is4 l && liL l with
    | true => s ++ [kcE l (atN (wd l 32 1))]
    | false => s
def liP (p : List (Elem k3)) (l : ByteArray) : List (Elem k3) := match isP l && liL l with
  | true => p ++ [ptE (wd l 32 1)]
  | false => p
def g94 : G1
  | [.agg [.val (.int .i64 x), .ows 0, .ows 1, .ows 2, .val (.bool b), .ows 3, .val (.int .i64 n)], .val (.string l)], [.row cx s0, .row [.int .i64, .int .i64, .int .i64] d, .row [.int .i64, .int .i64, .int .i64] p, .row [.int .i64] f], k => match castE kc cx s0 with
    | some s => br (decide (l.size ≤ 1048576) && (decide (s.length ≤ 1048576) && decide (p.length ≤ 1048576))) (k ⟨.tup [.agg [.val (.int .i64 x), .ows 0, .ows 1, .ows 2, .val (.bool b), .ows 3, .val (.int .i64 n)], .val (.bool (lnK l))], [.row kc (lnSS s l), .row k3 d, .row k3 (lnPP p l), .row ki f], [none, none, none, none]⟩) False
    | none => False
  | _, _, _ => False
def g98 : G1
  | [.ptr 0 0, .val (.string l)], [.box [.val (.int .i64 x), .ows 1, .ows 2, .ows 3, .val (.bool b), .ows 4, .val (.int .i64 n)], .row cx s0, .row [.int .i64, .int .i64, .int .i64] d, .row [.int .i64, .int .i64, .int .i64] p, .row [.int .i64] f], k => match castE kc cx s0 with
    | some s => br (decide (l.size ≤ 1048576) && (decide (s.length ≤ 1048576) && decide (p.length ≤ 1048576))) (k ⟨.val (.bool (liK l)), [.box [.val (.int .i64 x), .ows 1, .ows 2, .ows 3, .val (.bool b), .ows 4, .val (.int .i64 n)], .row kc (liS s l), .row k3 d, .row k3 (liP p l), .row ki f], [some 0, none, none, none, none]⟩) False
    | none => False
  | _, _, _ => False
theorem isP_t {l : ByteArray} (h1 : ((wn l : Int) == 2) = true) (h2 : strEq (wd l 32 0) ⟨#[46]⟩ = true) : isP l = true := by unfold isP; rw [h1, h2]; rfl
theorem isP_1 {l : ByteArray} (h1 : ((wn l : Int) == 2) = false) : isP l = false := by unfold isP; rw [h1]; rfl
theorem isP_2 {l : ByteArray} (h2 : strEq (wd l 32 0) ⟨#[46]⟩ = false) : isP l = false := by unfold isP; rw [h2, Bool.and_false]
theorem ln_P {l : ByteArray} (h : isP l = true) (s : List (Elem kc)) (p : List (Elem k3)) : lnK l = prK (wd l 32 1) ∧ lnSS s l = s ∧ lnPP p l = p ++ [ptE (wd l 32 1)] := by
  unfold lnK lnSS lnPP
  rw [h]
  exact ⟨rfl, rfl, rfl⟩
theorem ln_4 {l : ByteArray} (h : isP l = false) (h4 : is4 l = true) (s : List (Elem kc)) (p : List (Elem k3)) : lnK l = (numK (wd l 32 1) && prK (wd l 32 3)) ∧ lnSS s l = s ++ [kcE l (numN (wd l 32 1))] ∧ lnPP p l = p := by
  unfold lnK lnSS lnPP
  rw [h, h4]
  exact ⟨rfl, rfl, rfl⟩
theorem ln_n {l : ByteArray} (h : isP l = false) (h4 : is4 l = false) (s : List (Elem kc)) (p : List (Elem k3)) : lnK l = false ∧ lnSS s l = s ∧ lnPP p l = p := by
  unfold lnK lnSS lnPP
  rw [h, h4]
  exact ⟨rfl, rfl, rfl⟩
theorem kcE_d {l : ByteArray} (k : Int) (h : isD (wd l 32 2) = true) : kcE l k = (wd l 32 0, k, ByteArray.empty, 0, 0, 0, 0, 0, 0, 0, 0, 0, 0, 0, 0, 0, 0, 0, 0, 0, 0, 0, 0, 0, 0, 0, 0, prV (wd l 32 3) 0, prV (wd l 32 3) 1, prV (wd l 32 3) 2, false, ()) := by
  unfold kcE frO
  rw [h]
theorem kcE_n {l : ByteArray} (k : Int) (h : isD (wd l 32 2) = false) : kcE l k = (wd l 32 0, k, wd l 32 2, 0, 0, 0, 0, 0, 0, 0, 0, 0, 0, 0, 0, 0, 0, 0, 0, 0, 0, 0, 0, 0, 0, 0, 0, prV (wd l 32 3) 0, prV (wd l 32 3) 1, prV (wd l 32 3) 2, false, ()) := by
  unfold kcE frO
  rw [h]
noncomputable def G94 : Gk := gk [(93, g93), (162, g162), (163, g163)]
theorem hg94 : HG Tryz.prog G94 := (hg_cons h93 (hg_cons h162 (hg_cons h163 hg_nil)))
theorem e94 (L : Lp) (R : Option Res → Prop) (x : Int) (s : List (Elem kc)) (d p : List (Elem k3)) (b : Bool) (f : List (Elem ki)) (n : Int) (l : ByteArray) : (bodyP E2 G94 L Tryz.f94 [.agg [.val (.int .i64 x), .ows 0, .ows 1, .ows 2, .val (.bool b), .ows 3, .val (.int .i64 n)], .val (.string l)] [.row kc s, .row k3 d, .row k3 p, .row ki f] R) = (
    br (decide (l.size ≤ 1048576) && true) (br ((↑(cutL l 32).length : Int) == 2) (br (decide ((0 : Int) ≤ 0 ∧ 0 < (↑(cutL l 32).length : Int))) (br (strEq ((cutL l 32).getD 0 (edflt ks)).fst { data := #[46] }) (br (decide ((0 : Int) ≤ 1 ∧ 1 < (↑(cutL l 32).length : Int))) (br (decide (ByteArray.size ((cutL l 32).getD 1 (edflt ks)).fst ≤ 1048576)) (br (decide ((p.length + [(prV ((cutL l 32).getD 1 (edflt ks)).fst 0, prV ((cutL l 32).getD 1 (edflt ks)).fst 1, prV ((cutL l 32).getD 1 (edflt ks)).fst 2, ())].length) * 24 ≤ 140737488355328)) (R (some { av := AV.tup [AV.agg [vI x, AV.ows 0, AV.ows 1, AV.ows 2, vB b, AV.ows 3, vI n], vB (prK ((cutL l 32).getD 1 (edflt ks)).fst)], obs := [AO.row kc s, AO.row k3 d, AO.row k3 (p ++ [(prV ((cutL l 32).getD 1 (edflt ks)).fst 0, prV ((cutL l 32).getD 1 (edflt ks)).fst 1, prV ((cutL l 32).getD 1 (edflt ks)).fst 2, ())]), AO.row ki f], outs := [none, none, none, none] })) False) False) False) (br ((↑(cutL l 32).length : Int) != 4) (R (some { av := AV.tup [AV.agg [vI x, AV.ows 0, AV.ows 1, AV.ows 2, vB b, AV.ows 3, vI n], vB false], obs := [AO.row kc s, AO.row k3 d, AO.row k3 p, AO.row ki f], outs := [none, none, none, none] })) (br (decide ((0 : Int) ≤ 1 ∧ 1 < (↑(cutL l 32).length : Int))) (br (decide (ByteArray.size ((cutL l 32).getD 1 (edflt ks)).fst ≤ 1048576)) (br (decide ((0 : Int) ≤ 3 ∧ 3 < (↑(cutL l 32).length : Int))) (br (decide (ByteArray.size ((cutL l 32).getD 3 (edflt ks)).fst ≤ 1048576)) (br (decide ((0 : Int) ≤ 0 ∧ 0 < (↑(cutL l 32).length : Int))) (br (decide ((0 : Int) ≤ 2 ∧ 2 < (↑(cutL l 32).length : Int))) (br (!strEq ((cutL l 32).getD 2 (edflt ks)).fst { data := #[45] }) (br (decide ((0 : Int) ≤ 2 ∧ 2 < (↑(cutL l 32).length : Int))) (br (decide ((s.length + [(((cutL l 32).getD 0 (edflt ks)).fst, numN ((cutL l 32).getD 1 (edflt ks)).fst, ((cutL l 32).getD 2 (edflt ks)).fst, 0, 0, 0, 0, 0, 0, 0, 0, 0, 0, 0, 0, 0, 0, 0, 0, 0, 0, 0, 0, 0, 0, 0, 0, prV ((cutL l 32).getD 3 (edflt ks)).fst 0, prV ((cutL l 32).getD 3 (edflt ks)).fst 1, prV ((cutL l 32).getD 3 (edflt ks)).fst 2, false, ())].length) * 264 ≤ 140737488355328)) (br (numK ((cutL l 32).getD 1 (edflt ks)).fst) (R (some { av := AV.tup [AV.agg [vI x, AV.ows 0, AV.ows 1, AV.ows 2, vB b, AV.ows 3, vI n], vB (prK ((cutL l 32).getD 3 (edflt ks)).fst)], obs := [AO.row kc (s ++ [(((cutL l 32).getD 0 (edflt ks)).fst, numN ((cutL l 32).getD 1 (edflt ks)).fst, ((cutL l 32).getD 2 (edflt ks)).fst, 0, 0, 0, 0, 0, 0, 0, 0, 0, 0, 0, 0, 0, 0, 0, 0, 0, 0, 0, 0, 0, 0, 0, 0, prV ((cutL l 32).getD 3 (edflt ks)).fst 0, prV ((cutL l 32).getD 3 (edflt ks)).fst 1, prV ((cutL l 32).getD 3 (edflt ks)).fst 2, false, ())]), AO.row k3 d, AO.row k3 p, AO.row ki f], outs := [none, none, none, none] })) (R (some { av := AV.tup [AV.agg [vI x, AV.ows 0, AV.ows 1, AV.ows 2, vB b, AV.ows 3, vI n], vB false], obs := [AO.row kc (s ++ [(((cutL l 32).getD 0 (edflt ks)).fst, numN ((cutL l 32).getD 1 (edflt ks)).fst, ((cutL l 32).getD 2 (edflt ks)).fst, 0, 0, 0, 0, 0, 0, 0, 0, 0, 0, 0, 0, 0, 0, 0, 0, 0, 0, 0, 0, 0, 0, 0, 0, prV ((cutL l 32).getD 3 (edflt ks)).fst 0, prV ((cutL l 32).getD 3 (edflt ks)).fst 1, prV ((cutL l 32).getD 3 (edflt ks)).fst 2, false, ())]), AO.row k3 d, AO.row k3 p, AO.row ki f], outs := [none, none, none, none] }))) False) False) (br (decide ((s.length + [(((cutL l 32).getD 0 (edflt ks)).fst, numN ((cutL l 32).getD 1 (edflt ks)).fst, ByteArray.empty, 0, 0, 0, 0, 0, 0, 0, 0, 0, 0, 0, 0, 0, 0, 0, 0, 0, 0, 0, 0, 0, 0, 0, 0, prV ((cutL l 32).getD 3 (edflt ks)).fst 0, prV ((cutL l 32).getD 3 (edflt ks)).fst 1, prV ((cutL l 32).getD 3 (edflt ks)).fst 2, false, ())].length) * 264 ≤ 140737488355328)) (br (numK ((cutL l 32).getD 1 (edflt ks)).fst) (R (some { av := AV.tup [AV.agg [vI x, AV.ows 0, AV.ows 1, AV.ows 2, vB b, AV.ows 3, vI n], vB (prK ((cutL l 32).getD 3 (edflt ks)).fst)], obs := [AO.row kc (s ++ [(((cutL l 32).getD 0 (edflt ks)).fst, numN ((cutL l 32).getD 1 (edflt ks)).fst, ByteArray.empty, 0, 0, 0, 0, 0, 0, 0, 0, 0, 0, 0, 0, 0, 0, 0, 0, 0, 0, 0, 0, 0, 0, 0, 0, prV ((cutL l 32).getD 3 (edflt ks)).fst 0, prV ((cutL l 32).getD 3 (edflt ks)).fst 1, prV ((cutL l 32).getD 3 (edflt ks)).fst 2, false, ())]), AO.row k3 d, AO.row k3 p, AO.row ki f], outs := [none, none, none, none] })) (R (some { av := AV.tup [AV.agg [vI x, AV.ows 0, AV.ows 1, AV.ows 2, vB b, AV.ows 3, vI n], vB false], obs := [AO.row kc (s ++ [(((cutL l 32).getD 0 (edflt ks)).fst, numN ((cutL l 32).getD 1 (edflt ks)).fst, ByteArray.empty, 0, 0, 0, 0, 0, 0, 0, 0, 0, 0, 0, 0, 0, 0, 0, 0, 0, 0, 0, 0, 0, 0, 0, 0, prV ((cutL l 32).getD 3 (edflt ks)).fst 0, prV ((cutL l 32).getD 3 (edflt ks)).fst 1, prV ((cutL l 32).getD 3 (edflt ks)).fst 2, false, ())]), AO.row k3 d, AO.row k3 p, AO.row ki f], outs := [none, none, none, none] }))) False)) False) False) False) False) False) False))) False) (br ((↑(cutL l 32).length : Int) != 4) (R (some { av := AV.tup [AV.agg [vI x, AV.ows 0, AV.ows 1, AV.ows 2, vB b, AV.ows 3, vI n], vB false], obs := [AO.row kc s, AO.row k3 d, AO.row k3 p, AO.row ki f], outs := [none, none, none, none] })) (br (decide ((0 : Int) ≤ 1 ∧ 1 < (↑(cutL l 32).length : Int))) (br (decide (ByteArray.size ((cutL l 32).getD 1 (edflt ks)).fst ≤ 1048576)) (br (decide ((0 : Int) ≤ 3 ∧ 3 < (↑(cutL l 32).length : Int))) (br (decide (ByteArray.size ((cutL l 32).getD 3 (edflt ks)).fst ≤ 1048576)) (br (decide ((0 : Int) ≤ 0 ∧ 0 < (↑(cutL l 32).length : Int))) (br (decide ((0 : Int) ≤ 2 ∧ 2 < (↑(cutL l 32).length : Int))) (br (!strEq ((cutL l 32).getD 2 (edflt ks)).fst { data := #[45] }) (br (decide ((0 : Int) ≤ 2 ∧ 2 < (↑(cutL l 32).length : Int))) (br (decide ((s.length + [(((cutL l 32).getD 0 (edflt ks)).fst, numN ((cutL l 32).getD 1 (edflt ks)).fst, ((cutL l 32).getD 2 (edflt ks)).fst, 0, 0, 0, 0, 0, 0, 0, 0, 0, 0, 0, 0, 0, 0, 0, 0, 0, 0, 0, 0, 0, 0, 0, 0, prV ((cutL l 32).getD 3 (edflt ks)).fst 0, prV ((cutL l 32).getD 3 (edflt ks)).fst 1, prV ((cutL l 32).getD 3 (edflt ks)).fst 2, false, ())].length) * 264 ≤ 140737488355328)) (br (numK ((cutL l 32).getD 1 (edflt ks)).fst) (R (some { av := AV.tup [AV.agg [vI x, AV.ows 0, AV.ows 1, AV.ows 2, vB b, AV.ows 3, vI n], vB (prK ((cutL l 32).getD 3 (edflt ks)).fst)], obs := [AO.row kc (s ++ [(((cutL l 32).getD 0 (edflt ks)).fst, numN ((cutL l 32).getD 1 (edflt ks)).fst, ((cutL l 32).getD 2 (edflt ks)).fst, 0, 0, 0, 0, 0, 0, 0, 0, 0, 0, 0, 0, 0, 0, 0, 0, 0, 0, 0, 0, 0, 0, 0, 0, prV ((cutL l 32).getD 3 (edflt ks)).fst 0, prV ((cutL l 32).getD 3 (edflt ks)).fst 1, prV ((cutL l 32).getD 3 (edflt ks)).fst 2, false, ())]), AO.row k3 d, AO.row k3 p, AO.row ki f], outs := [none, none, none, none] })) (R (some { av := AV.tup [AV.agg [vI x, AV.ows 0, AV.ows 1, AV.ows 2, vB b, AV.ows 3, vI n], vB false], obs := [AO.row kc (s ++ [(((cutL l 32).getD 0 (edflt ks)).fst, numN ((cutL l 32).getD 1 (edflt ks)).fst, ((cutL l 32).getD 2 (edflt ks)).fst, 0, 0, 0, 0, 0, 0, 0, 0, 0, 0, 0, 0, 0, 0, 0, 0, 0, 0, 0, 0, 0, 0, 0, 0, prV ((cutL l 32).getD 3 (edflt ks)).fst 0, prV ((cutL l 32).getD 3 (edflt ks)).fst 1, prV ((cutL l 32).getD 3 (edflt ks)).fst 2, false, ())]), AO.row k3 d, AO.row k3 p, AO.row ki f], outs := [none, none, none, none] }))) False) False) (br (decide ((s.length + [(((cutL l 32).getD 0 (edflt ks)).fst, numN ((cutL l 32).getD 1 (edflt ks)).fst, ByteArray.empty, 0, 0, 0, 0, 0, 0, 0, 0, 0, 0, 0, 0, 0, 0, 0, 0, 0, 0, 0, 0, 0, 0, 0, 0, prV ((cutL l 32).getD 3 (edflt ks)).fst 0, prV ((cutL l 32).getD 3 (edflt ks)).fst 1, prV ((cutL l 32).getD 3 (edflt ks)).fst 2, false, ())].length) * 264 ≤ 140737488355328)) (br (numK ((cutL l 32).getD 1 (edflt ks)).fst) (R (some { av := AV.tup [AV.agg [vI x, AV.ows 0, AV.ows 1, AV.ows 2, vB b, AV.ows 3, vI n], vB (prK ((cutL l 32).getD 3 (edflt ks)).fst)], obs := [AO.row kc (s ++ [(((cutL l 32).getD 0 (edflt ks)).fst, numN ((cutL l 32).getD 1 (edflt ks)).fst, ByteArray.empty, 0, 0, 0, 0, 0, 0, 0, 0, 0, 0, 0, 0, 0, 0, 0, 0, 0, 0, 0, 0, 0, 0, 0, 0, prV ((cutL l 32).getD 3 (edflt ks)).fst 0, prV ((cutL l 32).getD 3 (edflt ks)).fst 1, prV ((cutL l 32).getD 3 (edflt ks)).fst 2, false, ())]), AO.row k3 d, AO.row k3 p, AO.row ki f], outs := [none, none, none, none] })) (R (some { av := AV.tup [AV.agg [vI x, AV.ows 0, AV.ows 1, AV.ows 2, vB b, AV.ows 3, vI n], vB false], obs := [AO.row kc (s ++ [(((cutL l 32).getD 0 (edflt ks)).fst, numN ((cutL l 32).getD 1 (edflt ks)).fst, ByteArray.empty, 0, 0, 0, 0, 0, 0, 0, 0, 0, 0, 0, 0, 0, 0, 0, 0, 0, 0, 0, 0, 0, 0, 0, 0, prV ((cutL l 32).getD 3 (edflt ks)).fst 0, prV ((cutL l 32).getD 3 (edflt ks)).fst 1, prV ((cutL l 32).getD 3 (edflt ks)).fst 2, false, ())]), AO.row k3 d, AO.row k3 p, AO.row ki f], outs := [none, none, none, none] }))) False)) False) False) False) False) False) False))) False) := by kernel_rfl
theorem h94 : G1Ok Tryz.prog 94 g94 := by
  intro args obs k h
  unfold g94 at h
  split at h
  · rename_i k x b n l cx s0 d p f
    split at h
    rotate_left
    · exact h.elim
    rename_i s hx
    cases castE_inv hx
    obtain ⟨hpp, h⟩ := br_and h
    simp only [Bool.and_eq_true, decide_eq_true_eq] at hpp
    obtain ⟨hl, hsl, hpl⟩ := hpp
    refine ⟨_, ctr_fn ok2 hg94 Tryz.func94 (by kernel_rfl) (by kernel_rfl) (by kernel_rfl) fun C => ?_, h⟩
    show bodyP E2 G94 _ Tryz.f94 [.agg [.val (.int .i64 x), .ows 0, .ows 1, .ows 2, .val (.bool b), .ows 3, .val (.int .i64 n)], .val (.string l)] [.row kc s, .row k3 d, .row k3 p, .row ki f] _
    rw [e94]
    refine br_t (by rw [decide_eq_true hl]; rfl) (br_intro (fun h1 => ?_) (fun h1 => ?_))
    · have w2 : (cutL l 32).length = 2 := by have : ((cutL l 32).length : Int) = 2 := by simpa using h1
                                             omega
      refine br_yes ⟨by omega, by omega⟩ (br_intro (fun h2 => ?_) (fun h2 => ?_))
      · obtain ⟨r1, r2, r3⟩ := ln_P (isP_t h1 h2) s p
        refine br_yes ⟨by omega, by omega⟩ (br_yes (Nat.le_trans (wd_size l 32 1) hl) (br_yes (by show (p.length + 1) * 24 ≤ _; omega) ?_))
        show _ = _
        rw [r1, r2, r3] <;> rfl
      · obtain ⟨r1, r2, r3⟩ := ln_n (isP_2 h2) (show is4 l = false from by unfold is4 wn; rw [w2]; rfl) s p
        refine br_t (by rw [w2]; rfl) ?_
        show _ = _
        rw [r1, r2, r3]
    · 
      refine br_intro (fun h3 => ?_) (fun h3 => ?_)
      · obtain ⟨r1, r2, r3⟩ := ln_n (isP_1 h1) (by have q : (!is4 l) = true := h3; simpa using q) s p
        show _ = _
        rw [r1, r2, r3]
      have h4 : is4 l = true := by have q : (!is4 l) = false := h3; simpa using q
      have w4 : wn l = 4 := by have : (wn l : Int) = 4 := by simpa [is4] using h4
                               omega
      have w4' : (cutL l 32).length = 4 := w4
      obtain ⟨r1, r2, r3⟩ := ln_4 (isP_1 h1) h4 s p
      refine br_yes ⟨by omega, by omega⟩ (br_yes ?_ (br_yes ⟨by omega, by omega⟩ (br_yes ?_ (br_yes ⟨by omega, by omega⟩ (br_yes ⟨by omega, by omega⟩ (br_not (fun h5 => ?_) (fun h5 => ?_)))))))
      · exact Nat.le_trans (wd_size l 32 1) hl
      · exact Nat.le_trans (wd_size l 32 3) hl
      · rw [kcE_n _ (show isD (wd l 32 2) = false from h5)] at r2
        refine br_yes ⟨by omega, by omega⟩ (br_yes (by show (s.length + 1) * 264 ≤ _; omega) (br_intro (fun h6 => ?_) (fun h6 => ?_)))
        · have h6 : numK (wd l 32 1) = true := h6
          rw [h6] at r1
          show _ = _
          rw [r1, r2, r3] <;> rfl
        · have h6 : numK (wd l 32 1) = false := h6
          rw [h6] at r1
          show _ = _
          rw [r1, r2, r3] <;> rfl
      · rw [kcE_d _ (show isD (wd l 32 2) = true from h5)] at r2
        refine (br_yes (by show (s.length + 1) * 264 ≤ _; omega) (br_intro (fun h6 => ?_) (fun h6 => ?_)))
        · have h6 : numK (wd l 32 1) = true := h6
          rw [h6] at r1
          show _ = _
          rw [r1, r2, r3] <;> rfl
        · have h6 : numK (wd l 32 1) = false := h6
          rw [h6] at r1
          show _ = _
          rw [r1, r2, r3] <;> rfl
  · exact h.elim
theorem li_f {l : ByteArray} (h : liL l = false) (s : List (Elem kc)) (p : List (Elem k3)) : liK l = false ∧ liS s l = s ∧ liP p l = p := by
  have hk : liK l = false := by
    unfold liK
    unfold liL at h
    cases h1 : isP l with
    | true =>
      have w2 : wn l = 2 := by
        unfold isP at h1
        simp only [Bool.and_eq_true, beq_iff_eq] at h1
        omega
      rw [w2] at h
      exact h
    | false =>
      cases h2 : is4 l with
      | true =>
        have w4 : wn l = 4 := by
          unfold is4 at h2
          simp only [beq_iff_eq] at h2
          omega
        rw [w4] at h
        show (prK (wd l 32 3) && atK (wd l 32 1)) = false
        rw [show prK (wd l 32 3) = false from h]
        rfl
      | false => rfl
  refine ⟨hk, ?_, ?_⟩
  · unfold liS
    rw [h, Bool.and_false]
    cases isP l <;> rfl
  · unfold liP
    rw [h, Bool.and_false]
theorem li_P {l : ByteArray} (h : isP l = true) (hp : prK (wd l 32 1) = true) (hL : liL l = true) (s : List (Elem kc)) (p : List (Elem k3)) : liK l = true ∧ liS s l = s ∧ liP p l = p ++ [ptE (wd l 32 1)] := by
  unfold liK liS liP
  rw [h, hL]
  exact ⟨hp, rfl, rfl⟩
theorem li_n {l : ByteArray} (h : isP l = false) (h4 : is4 l = false) (s : List (Elem kc)) (p : List (Elem k3)) : liK l = false ∧ liS s l = s ∧ liP p l = p := by
  unfold liK liS liP
  rw [h, h4]
  exact ⟨rfl, rfl, rfl⟩
theorem li_4 {l : ByteArray} (h : isP l = false) (h4 : is4 l = true) (hp : prK (wd l 32 3) = true) (hL : liL l = true) (s : List (Elem kc)) (p : List (Elem k3)) : liK l = atK (wd l 32 1) ∧ liS s l = s ++ [kcE l (atN (wd l 32 1))] ∧ liP p l = p := by
  unfold liK liS liP
  rw [h, h4, hL, hp]
  exact ⟨rfl, rfl, rfl⟩
theorem cutL_pos (s : ByteArray) (c : Int) : 1 ≤ (cutL s c).length := by
  unfold cutL
  rw [List.length_map]
  have := splitW_ne (UInt8.ofNat c.toNat) s.data.toList
  exact List.length_pos_iff.2 this
theorem splitW_cnt (c : UInt8) : ∀ l, (splitW c l).length ≤ l.length + 1
  | [] => by simp [splitW]
  | b :: l => by
    have := splitW_cnt c l
    unfold splitW
    split
    · simp only [List.length_cons]
      omega
    · cases h : splitW c l with
      | nil => exact absurd h (splitW_ne c l)
      | cons w ws =>
        rw [h] at this
        simp only [consW, List.length_cons] at this ⊢
        omega
theorem cutL_cnt (s : ByteArray) (c : Int) : (cutL s c).length ≤ s.size + 1 := by
  unfold cutL
  rw [List.length_map]
  exact splitW_cnt _ _
noncomputable def G98 : Gk := gk [(97, g97), (170, g162), (171, g171)]
theorem hg98 : HG Tryz.prog G98 := (hg_cons h97 (hg_cons h170 (hg_cons h171 hg_nil)))
theorem e98 (L : Lp) (R : Option Res → Prop) (x : Int) (s : List (Elem kc)) (d p : List (Elem k3)) (b : Bool) (f : List (Elem ki)) (n : Int) (l : ByteArray) : (bodyP E2 G98 L Tryz.f98 [.ptr 0 0, .val (.string l)] [.box [.val (.int .i64 x), .ows 1, .ows 2, .ows 3, .val (.bool b), .ows 4, .val (.int .i64 n)], .row kc s, .row k3 d, .row k3 p, .row ki f] R) = (
    br (decide (l.size ≤ 1048576) && true) (br (decide (0 ≤ IntKind.i64.wrap ((↑(cutL l 32).length : Int) - 1) ∧ IntKind.i64.wrap ((↑(cutL l 32).length : Int) - 1) < (↑(cutL l 32).length : Int))) (br (decide (ByteArray.size ((cutL l 32).getD (IntKind.i64.wrap ((↑(cutL l 32).length : Int) - 1)).toNat (edflt ks)).fst ≤ 1048576)) (br (!prK ((cutL l 32).getD (IntKind.i64.wrap ((↑(cutL l 32).length : Int) - 1)).toNat (edflt ks)).fst) (R (some { av := vB false, obs := [AO.box [vI x, AV.ows 1, AV.ows 2, AV.ows 3, vB b, AV.ows 4, vI n], AO.row kc s, AO.row k3 d, AO.row k3 p, AO.row ki f], outs := [some 0, none, none, none, none] })) (br ((↑(cutL l 32).length : Int) == 2) (br (decide ((0 : Int) ≤ 0 ∧ 0 < (↑(cutL l 32).length : Int))) (br (strEq ((cutL l 32).getD 0 (edflt ks)).fst { data := #[46] }) (br (decide ((p.length + [(prV ((cutL l 32).getD (IntKind.i64.wrap ((↑(cutL l 32).length : Int) - 1)).toNat (edflt ks)).fst 0, prV ((cutL l 32).getD (IntKind.i64.wrap ((↑(cutL l 32).length : Int) - 1)).toNat (edflt ks)).fst 1, prV ((cutL l 32).getD (IntKind.i64.wrap ((↑(cutL l 32).length : Int) - 1)).toNat (edflt ks)).fst 2, ())].length) * 24 ≤ 140737488355328)) (R (some { av := vB true, obs := [AO.box [vI x, AV.ows 1, AV.ows 2, AV.ows 3, vB b, AV.ows 4, vI n], AO.row kc s, AO.row k3 d, AO.row k3 (p ++ [(prV ((cutL l 32).getD (IntKind.i64.wrap ((↑(cutL l 32).length : Int) - 1)).toNat (edflt ks)).fst 0, prV ((cutL l 32).getD (IntKind.i64.wrap ((↑(cutL l 32).length : Int) - 1)).toNat (edflt ks)).fst 1, prV ((cutL l 32).getD (IntKind.i64.wrap ((↑(cutL l 32).length : Int) - 1)).toNat (edflt ks)).fst 2, ())]), AO.row ki f], outs := [some 0, none, none, none, none] })) False) (br ((↑(cutL l 32).length : Int) != 4) (R (some { av := vB false, obs := [AO.box [vI x, AV.ows 1, AV.ows 2, AV.ows 3, vB b, AV.ows 4, vI n], AO.row kc s, AO.row k3 d, AO.row k3 p, AO.row ki f], outs := [some 0, none, none, none, none] })) (br (decide ((0 : Int) ≤ 1 ∧ 1 < (↑(cutL l 32).length : Int))) (br (decide (ByteArray.size ((cutL l 32).getD 1 (edflt ks)).fst ≤ 1048576)) (br (atK ((cutL l 32).getD 1 (edflt ks)).fst) (br (decide ((0 : Int) ≤ 2 ∧ 2 < (↑(cutL l 32).length : Int))) (br (strEq ((cutL l 32).getD 2 (edflt ks)).fst { data := #[45] }) (br (decide ((0 : Int) ≤ 0 ∧ 0 < (↑(cutL l 32).length : Int))) (br (decide ((s.length + [(((cutL l 32).getD 0 (edflt ks)).fst, atN ((cutL l 32).getD 1 (edflt ks)).fst, (⟨#[]⟩ : ByteArray), 0, 0, 0, 0, 0, 0, 0, 0, 0, 0, 0, 0, 0, 0, 0, 0, 0, 0, 0, 0, 0, 0, 0, 0, prV ((cutL l 32).getD (IntKind.i64.wrap ((↑(cutL l 32).length : Int) - 1)).toNat (edflt ks)).fst 0, prV ((cutL l 32).getD (IntKind.i64.wrap ((↑(cutL l 32).length : Int) - 1)).toNat (edflt ks)).fst 1, prV ((cutL l 32).getD (IntKind.i64.wrap ((↑(cutL l 32).length : Int) - 1)).toNat (edflt ks)).fst 2, false, ())].length) * 264 ≤ 140737488355328)) (R (some { av := vB true, obs := [AO.box [vI x, AV.ows 1, AV.ows 2, AV.ows 3, vB b, AV.ows 4, vI n], AO.row kc (s ++ [(((cutL l 32).getD 0 (edflt ks)).fst, atN ((cutL l 32).getD 1 (edflt ks)).fst, (⟨#[]⟩ : ByteArray), 0, 0, 0, 0, 0, 0, 0, 0, 0, 0, 0, 0, 0, 0, 0, 0, 0, 0, 0, 0, 0, 0, 0, 0, prV ((cutL l 32).getD (IntKind.i64.wrap ((↑(cutL l 32).length : Int) - 1)).toNat (edflt ks)).fst 0, prV ((cutL l 32).getD (IntKind.i64.wrap ((↑(cutL l 32).length : Int) - 1)).toNat (edflt ks)).fst 1, prV ((cutL l 32).getD (IntKind.i64.wrap ((↑(cutL l 32).length : Int) - 1)).toNat (edflt ks)).fst 2, false, ())]), AO.row k3 d, AO.row k3 p, AO.row ki f], outs := [some 0, none, none, none, none] })) False) False) (br (decide ((0 : Int) ≤ 0 ∧ 0 < (↑(cutL l 32).length : Int))) (br (decide ((s.length + [(((cutL l 32).getD 0 (edflt ks)).fst, atN ((cutL l 32).getD 1 (edflt ks)).fst, ((cutL l 32).getD 2 (edflt ks)).fst, 0, 0, 0, 0, 0, 0, 0, 0, 0, 0, 0, 0, 0, 0, 0, 0, 0, 0, 0, 0, 0, 0, 0, 0, prV ((cutL l 32).getD (IntKind.i64.wrap ((↑(cutL l 32).length : Int) - 1)).toNat (edflt ks)).fst 0, prV ((cutL l 32).getD (IntKind.i64.wrap ((↑(cutL l 32).length : Int) - 1)).toNat (edflt ks)).fst 1, prV ((cutL l 32).getD (IntKind.i64.wrap ((↑(cutL l 32).length : Int) - 1)).toNat (edflt ks)).fst 2, false, ())].length) * 264 ≤ 140737488355328)) (R (some { av := vB true, obs := [AO.box [vI x, AV.ows 1, AV.ows 2, AV.ows 3, vB b, AV.ows 4, vI n], AO.row kc (s ++ [(((cutL l 32).getD 0 (edflt ks)).fst, atN ((cutL l 32).getD 1 (edflt ks)).fst, ((cutL l 32).getD 2 (edflt ks)).fst, 0, 0, 0, 0, 0, 0, 0, 0, 0, 0, 0, 0, 0, 0, 0, 0, 0, 0, 0, 0, 0, 0, 0, 0, prV ((cutL l 32).getD (IntKind.i64.wrap ((↑(cutL l 32).length : Int) - 1)).toNat (edflt ks)).fst 0, prV ((cutL l 32).getD (IntKind.i64.wrap ((↑(cutL l 32).length : Int) - 1)).toNat (edflt ks)).fst 1, prV ((cutL l 32).getD (IntKind.i64.wrap ((↑(cutL l 32).length : Int) - 1)).toNat (edflt ks)).fst 2, false, ())]), AO.row k3 d, AO.row k3 p, AO.row ki f], outs := [some 0, none, none, none, none] })) False) False)) False) (br (decide ((0 : Int) ≤ 2 ∧ 2 < (↑(cutL l 32).length : Int))) (br (strEq ((cutL l 32).getD 2 (edflt ks)).fst { data := #[45] }) (br (decide ((0 : Int) ≤ 0 ∧ 0 < (↑(cutL l 32).length : Int))) (br (decide ((s.length + [(((cutL l 32).getD 0 (edflt ks)).fst, atN ((cutL l 32).getD 1 (edflt ks)).fst, (⟨#[]⟩ : ByteArray), 0, 0, 0, 0, 0, 0, 0, 0, 0, 0, 0, 0, 0, 0, 0, 0, 0, 0, 0, 0, 0, 0, 0, 0, prV ((cutL l 32).getD (IntKind.i64.wrap ((↑(cutL l 32).length : Int) - 1)).toNat (edflt ks)).fst 0, prV ((cutL l 32).getD (IntKind.i64.wrap ((↑(cutL l 32).length : Int) - 1)).toNat (edflt ks)).fst 1, prV ((cutL l 32).getD (IntKind.i64.wrap ((↑(cutL l 32).length : Int) - 1)).toNat (edflt ks)).fst 2, false, ())].length) * 264 ≤ 140737488355328)) (R (some { av := vB false, obs := [AO.box [vI x, AV.ows 1, AV.ows 2, AV.ows 3, vB b, AV.ows 4, vI n], AO.row kc (s ++ [(((cutL l 32).getD 0 (edflt ks)).fst, atN ((cutL l 32).getD 1 (edflt ks)).fst, (⟨#[]⟩ : ByteArray), 0, 0, 0, 0, 0, 0, 0, 0, 0, 0, 0, 0, 0, 0, 0, 0, 0, 0, 0, 0, 0, 0, 0, 0, prV ((cutL l 32).getD (IntKind.i64.wrap ((↑(cutL l 32).length : Int) - 1)).toNat (edflt ks)).fst 0, prV ((cutL l 32).getD (IntKind.i64.wrap ((↑(cutL l 32).length : Int) - 1)).toNat (edflt ks)).fst 1, prV ((cutL l 32).getD (IntKind.i64.wrap ((↑(cutL l 32).length : Int) - 1)).toNat (edflt ks)).fst 2, false, ())]), AO.row k3 d, AO.row k3 p, AO.row ki f], outs := [some 0, none, none, none, none] })) False) False) (br (decide ((0 : Int) ≤ 0 ∧ 0 < (↑(cutL l 32).length : Int))) (br (decide ((s.length + [(((cutL l 32).getD 0 (edflt ks)).fst, atN ((cutL l 32).getD 1 (edflt ks)).fst, ((cutL l 32).getD 2 (edflt ks)).fst, 0, 0, 0, 0, 0, 0, 0, 0, 0, 0, 0, 0, 0, 0, 0, 0, 0, 0, 0, 0, 0, 0, 0, 0, prV ((cutL l 32).getD (IntKind.i64.wrap ((↑(cutL l 32).length : Int) - 1)).toNat (edflt ks)).fst 0, prV ((cutL l 32).getD (IntKind.i64.wrap ((↑(cutL l 32).length : Int) - 1)).toNat (edflt ks)).fst 1, prV ((cutL l 32).getD (IntKind.i64.wrap ((↑(cutL l 32).length : Int) - 1)).toNat (edflt ks)).fst 2, false, ())].length) * 264 ≤ 140737488355328)) (R (some { av := vB false, obs := [AO.box [vI x, AV.ows 1, AV.ows 2, AV.ows 3, vB b, AV.ows 4, vI n], AO.row kc (s ++ [(((cutL l 32).getD 0 (edflt ks)).fst, atN ((cutL l 32).getD 1 (edflt ks)).fst, ((cutL l 32).getD 2 (edflt ks)).fst, 0, 0, 0, 0, 0, 0, 0, 0, 0, 0, 0, 0, 0, 0, 0, 0, 0, 0, 0, 0, 0, 0, 0, 0, prV ((cutL l 32).getD (IntKind.i64.wrap ((↑(cutL l 32).length : Int) - 1)).toNat (edflt ks)).fst 0, prV ((cutL l 32).getD (IntKind.i64.wrap ((↑(cutL l 32).length : Int) - 1)).toNat (edflt ks)).fst 1, prV ((cutL l 32).getD (IntKind.i64.wrap ((↑(cutL l 32).length : Int) - 1)).toNat (edflt ks)).fst 2, false, ())]), AO.row k3 d, AO.row k3 p, AO.row ki f], outs := [some 0, none, none, none, none] })) False) False)) False)) False) False))) False) (br ((↑(cutL l 32).length : Int) != 4) (R (some { av := vB false, obs := [AO.box [vI x, AV.ows 1, AV.ows 2, AV.ows 3, vB b, AV.ows 4, vI n], AO.row kc s, AO.row k3 d, AO.row k3 p, AO.row ki f], outs := [some 0, none, none, none, none] })) (br (decide ((0 : Int) ≤ 1 ∧ 1 < (↑(cutL l 32).length : Int))) (br (decide (ByteArray.size ((cutL l 32).getD 1 (edflt ks)).fst ≤ 1048576)) (br (atK ((cutL l 32).getD 1 (edflt ks)).fst) (br (decide ((0 : Int) ≤ 2 ∧ 2 < (↑(cutL l 32).length : Int))) (br (strEq ((cutL l 32).getD 2 (edflt ks)).fst { data := #[45] }) (br (decide ((0 : Int) ≤ 0 ∧ 0 < (↑(cutL l 32).length : Int))) (br (decide ((s.length + [(((cutL l 32).getD 0 (edflt ks)).fst, atN ((cutL l 32).getD 1 (edflt ks)).fst, (⟨#[]⟩ : ByteArray), 0, 0, 0, 0, 0, 0, 0, 0, 0, 0, 0, 0, 0, 0, 0, 0, 0, 0, 0, 0, 0, 0, 0, 0, prV ((cutL l 32).getD (IntKind.i64.wrap ((↑(cutL l 32).length : Int) - 1)).toNat (edflt ks)).fst 0, prV ((cutL l 32).getD (IntKind.i64.wrap ((↑(cutL l 32).length : Int) - 1)).toNat (edflt ks)).fst 1, prV ((cutL l 32).getD (IntKind.i64.wrap ((↑(cutL l 32).length : Int) - 1)).toNat (edflt ks)).fst 2, false, ())].length) * 264 ≤ 140737488355328)) (R (some { av := vB true, obs := [AO.box [vI x, AV.ows 1, AV.ows 2, AV.ows 3, vB b, AV.ows 4, vI n], AO.row kc (s ++ [(((cutL l 32).getD 0 (edflt ks)).fst, atN ((cutL l 32).getD 1 (edflt ks)).fst, (⟨#[]⟩ : ByteArray), 0, 0, 0, 0, 0, 0, 0, 0, 0, 0, 0, 0, 0, 0, 0, 0, 0, 0, 0, 0, 0, 0, 0, 0, prV ((cutL l 32).getD (IntKind.i64.wrap ((↑(cutL l 32).length : Int) - 1)).toNat (edflt ks)).fst 0, prV ((cutL l 32).getD (IntKind.i64.wrap ((↑(cutL l 32).length : Int) - 1)).toNat (edflt ks)).fst 1, prV ((cutL l 32).getD (IntKind.i64.wrap ((↑(cutL l 32).length : Int) - 1)).toNat (edflt ks)).fst 2, false, ())]), AO.row k3 d, AO.row k3 p, AO.row ki f], outs := [some 0, none, none, none, none] })) False) False) (br (decide ((0 : Int) ≤ 0 ∧ 0 < (↑(cutL l 32).length : Int))) (br (decide ((s.length + [(((cutL l 32).getD 0 (edflt ks)).fst, atN ((cutL l 32).getD 1 (edflt ks)).fst, ((cutL l 32).getD 2 (edflt ks)).fst, 0, 0, 0, 0, 0, 0, 0, 0, 0, 0, 0, 0, 0, 0, 0, 0, 0, 0, 0, 0, 0, 0, 0, 0, prV ((cutL l 32).getD (IntKind.i64.wrap ((↑(cutL l 32).length : Int) - 1)).toNat (edflt ks)).fst 0, prV ((cutL l 32).getD (IntKind.i64.wrap ((↑(cutL l 32).length : Int) - 1)).toNat (edflt ks)).fst 1, prV ((cutL l 32).getD (IntKind.i64.wrap ((↑(cutL l 32).length : Int) - 1)).toNat (edflt ks)).fst 2, false, ())].length) * 264 ≤ 140737488355328)) (R (some { av := vB true, obs := [AO.box [vI x, AV.ows 1, AV.ows 2, AV.ows 3, vB b, AV.ows 4, vI n], AO.row kc (s ++ [(((cutL l 32).getD 0 (edflt ks)).fst, atN ((cutL l 32).getD 1 (edflt ks)).fst, ((cutL l 32).getD 2 (edflt ks)).fst, 0, 0, 0, 0, 0, 0, 0, 0, 0, 0, 0, 0, 0, 0, 0, 0, 0, 0, 0, 0, 0, 0, 0, 0, prV ((cutL l 32).getD (IntKind.i64.wrap ((↑(cutL l 32).length : Int) - 1)).toNat (edflt ks)).fst 0, prV ((cutL l 32).getD (IntKind.i64.wrap ((↑(cutL l 32).length : Int) - 1)).toNat (edflt ks)).fst 1, prV ((cutL l 32).getD (IntKind.i64.wrap ((↑(cutL l 32).length : Int) - 1)).toNat (edflt ks)).fst 2, false, ())]), AO.row k3 d, AO.row k3 p, AO.row ki f], outs := [some 0, none, none, none, none] })) False) False)) False) (br (decide ((0 : Int) ≤ 2 ∧ 2 < (↑(cutL l 32).length : Int))) (br (strEq ((cutL l 32).getD 2 (edflt ks)).fst { data := #[45] }) (br (decide ((0 : Int) ≤ 0 ∧ 0 < (↑(cutL l 32).length : Int))) (br (decide ((s.length + [(((cutL l 32).getD 0 (edflt ks)).fst, atN ((cutL l 32).getD 1 (edflt ks)).fst, (⟨#[]⟩ : ByteArray), 0, 0, 0, 0, 0, 0, 0, 0, 0, 0, 0, 0, 0, 0, 0, 0, 0, 0, 0, 0, 0, 0, 0, 0, prV ((cutL l 32).getD (IntKind.i64.wrap ((↑(cutL l 32).length : Int) - 1)).toNat (edflt ks)).fst 0, prV ((cutL l 32).getD (IntKind.i64.wrap ((↑(cutL l 32).length : Int) - 1)).toNat (edflt ks)).fst 1, prV ((cutL l 32).getD (IntKind.i64.wrap ((↑(cutL l 32).length : Int) - 1)).toNat (edflt ks)).fst 2, false, ())].length) * 264 ≤ 140737488355328)) (R (some { av := vB false, obs := [AO.box [vI x, AV.ows 1, AV.ows 2, AV.ows 3, vB b, AV.ows 4, vI n], AO.row kc (s ++ [(((cutL l 32).getD 0 (edflt ks)).fst, atN ((cutL l 32).getD 1 (edflt ks)).fst, (⟨#[]⟩ : ByteArray), 0, 0, 0, 0, 0, 0, 0, 0, 0, 0, 0, 0, 0, 0, 0, 0, 0, 0, 0, 0, 0, 0, 0, 0, prV ((cutL l 32).getD (IntKind.i64.wrap ((↑(cutL l 32).length : Int) - 1)).toNat (edflt ks)).fst 0, prV ((cutL l 32).getD (IntKind.i64.wrap ((↑(cutL l 32).length : Int) - 1)).toNat (edflt ks)).fst 1, prV ((cutL l 32).getD (IntKind.i64.wrap ((↑(cutL l 32).length : Int) - 1)).toNat (edflt ks)).fst 2, false, ())]), AO.row k3 d, AO.row k3 p, AO.row ki f], outs := [some 0, none, none, none, none] })) False) False) (br (decide ((0 : Int) ≤ 0 ∧ 0 < (↑(cutL l 32).length : Int))) (br (decide ((s.length + [(((cutL l 32).getD 0 (edflt ks)).fst, atN ((cutL l 32).getD 1 (edflt ks)).fst, ((cutL l 32).getD 2 (edflt ks)).fst, 0, 0, 0, 0, 0, 0, 0, 0, 0, 0, 0, 0, 0, 0, 0, 0, 0, 0, 0, 0, 0, 0, 0, 0, prV ((cutL l 32).getD (IntKind.i64.wrap ((↑(cutL l 32).length : Int) - 1)).toNat (edflt ks)).fst 0, prV ((cutL l 32).getD (IntKind.i64.wrap ((↑(cutL l 32).length : Int) - 1)).toNat (edflt ks)).fst 1, prV ((cutL l 32).getD (IntKind.i64.wrap ((↑(cutL l 32).length : Int) - 1)).toNat (edflt ks)).fst 2, false, ())].length) * 264 ≤ 140737488355328)) (R (some { av := vB false, obs := [AO.box [vI x, AV.ows 1, AV.ows 2, AV.ows 3, vB b, AV.ows 4, vI n], AO.row kc (s ++ [(((cutL l 32).getD 0 (edflt ks)).fst, atN ((cutL l 32).getD 1 (edflt ks)).fst, ((cutL l 32).getD 2 (edflt ks)).fst, 0, 0, 0, 0, 0, 0, 0, 0, 0, 0, 0, 0, 0, 0, 0, 0, 0, 0, 0, 0, 0, 0, 0, 0, prV ((cutL l 32).getD (IntKind.i64.wrap ((↑(cutL l 32).length : Int) - 1)).toNat (edflt ks)).fst 0, prV ((cutL l 32).getD (IntKind.i64.wrap ((↑(cutL l 32).length : Int) - 1)).toNat (edflt ks)).fst 1, prV ((cutL l 32).getD (IntKind.i64.wrap ((↑(cutL l 32).length : Int) - 1)).toNat (edflt ks)).fst 2, false, ())]), AO.row k3 d, AO.row k3 p, AO.row ki f], outs := [some 0, none, none, none, none] })) False) False)) False)) False) False)))) False) False) False) := by kernel_rfl
theorem h98 : G1Ok Tryz.prog 98 g98 := by
  intro args obs k h
  unfold g98 at h
  split at h
  · rename_i k l x b n cx s0 d p f
    split at h
    rotate_left
    · exact h.elim
    rename_i s hx
    cases castE_inv hx
    obtain ⟨hpp, h⟩ := br_and h
    simp only [Bool.and_eq_true, decide_eq_true_eq] at hpp
    obtain ⟨hl, hsl, hpl⟩ := hpp
    refine ⟨_, ctr_fn ok2 hg98 Tryz.func98 (by kernel_rfl) (by kernel_rfl) (by kernel_rfl) fun C => ?_, h⟩
    show bodyP E2 G98 _ Tryz.f98 [.ptr 0 0, .val (.string l)] [.box [.val (.int .i64 x), .ows 1, .ows 2, .ows 3, .val (.bool b), .ows 4, .val (.int .i64 n)], .row kc s, .row k3 d, .row k3 p, .row ki f] _
    have hp1 := cutL_pos l 32
    have hp2 := cutL_cnt l 32
    have e : IntKind.i64.wrap (((cutL l 32).length : Int) - 1) = (((cutL l 32).length - 1 : Nat) : Int) := by
      rw [wrap_id (n := ((cutL l 32).length : Int) - 1) (by omega) (by omega)]
      omega
    rw [e98, e, Int.toNat_natCast]
    refine br_t (by rw [decide_eq_true hl]; rfl) (br_yes ⟨by omega, by omega⟩ (br_yes (Nat.le_trans (wd_size l 32 _) hl) (br_not (fun h0 => ?_) (fun h0 => ?_))))
    · obtain ⟨r1, r2, r3⟩ := li_f (l := l) h0 s p
      show _ = _
      rw [r1, r2, r3]
    have hL : liL l = true := h0
    refine br_intro (fun h1 => ?_) (fun h1 => ?_)
    · have w2 : (cutL l 32).length = 2 := by have : ((cutL l 32).length : Int) = 2 := by simpa using h1
                                             omega
      have w2' : (cutL l 32).length - 1 = 1 := by omega
      rw [w2'] at h0 ⊢
      refine br_yes ⟨by omega, by omega⟩ (br_intro (fun h2 => ?_) (fun h2 => ?_))
      · obtain ⟨r1, r2, r3⟩ := li_P (isP_t h1 h2) h0 hL s p
        refine br_yes (by show (p.length + 1) * 24 ≤ _; omega) ?_
        show _ = _
        rw [r1, r2, r3] <;> rfl
      · obtain ⟨r1, r2, r3⟩ := li_n (isP_2 h2) (show is4 l = false from by unfold is4 wn; rw [w2]; rfl) s p
        refine br_t (by rw [w2]; rfl) ?_
        show _ = _
        rw [r1, r2, r3]
    · refine br_intro (fun h3 => ?_) (fun h3 => ?_)
      · obtain ⟨r1, r2, r3⟩ := li_n (isP_1 h1) (by have q : (!is4 l) = true := h3; simpa using q) s p
        show _ = _
        rw [r1, r2, r3]
      have h4 : is4 l = true := by have q : (!is4 l) = false := h3; simpa using q
      have w4 : (cutL l 32).length = 4 := by have : (wn l : Int) = 4 := by simpa [is4] using h4
                                             have : wn l = (cutL l 32).length := rfl
                                             omega
      have w4' : (cutL l 32).length - 1 = 3 := by omega
      rw [w4'] at h0 ⊢
      obtain ⟨r1, r2, r3⟩ := li_4 (isP_1 h1) h4 h0 hL s p
      refine br_yes ⟨by omega, by omega⟩ (br_yes (Nat.le_trans (wd_size l 32 1) hl) (br_intro (fun h6 => ?_) (fun h6 => ?_)))
      · have h6 : atK (wd l 32 1) = true := h6
        rw [h6] at r1
        refine br_yes ⟨by omega, by omega⟩ (br_intro (fun h5 => ?_) (fun h5 => ?_))
        · rw [kcE_d _ (show isD (wd l 32 2) = true from h5)] at r2
          refine br_yes ⟨by omega, by omega⟩ (br_yes (by show (s.length + 1) * 264 ≤ _; omega) ?_)
          show _ = _
          rw [r1, r2, r3] <;> rfl
        · rw [kcE_n _ (show isD (wd l 32 2) = false from h5)] at r2
          refine br_yes ⟨by omega, by omega⟩ (br_yes (by show (s.length + 1) * 264 ≤ _; omega) ?_)
          show _ = _
          rw [r1, r2, r3] <;> rfl
      · have h6 : atK (wd l 32 1) = false := h6
        rw [h6] at r1
        refine br_yes ⟨by omega, by omega⟩ (br_intro (fun h5 => ?_) (fun h5 => ?_))
        · rw [kcE_d _ (show isD (wd l 32 2) = true from h5)] at r2
          refine br_yes ⟨by omega, by omega⟩ (br_yes (by show (s.length + 1) * 264 ≤ _; omega) ?_)
          show _ = _
          rw [r1, r2, r3] <;> rfl
        · rw [kcE_n _ (show isD (wd l 32 2) = false from h5)] at r2
          refine br_yes ⟨by omega, by omega⟩ (br_yes (by show (s.length + 1) * 264 ≤ _; omega) ?_)
          show _ = _
          rw [r1, r2, r3] <;> rfl
  · exact h.elim
end Go.Proofs.YtkjnijddbiconaaGreatDoor.Ev
