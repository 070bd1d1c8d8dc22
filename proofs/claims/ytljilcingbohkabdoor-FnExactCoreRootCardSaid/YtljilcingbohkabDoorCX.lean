/- Counts of a core: contracts. -/
import Derived.Test.YtljilcingbohkabDoorC5
namespace Go.Proofs.YtljilcingbohkabDoor.Ev
open Go
set_option linter.unusedVariables false
set_option linter.unusedSimpArgs false
set_option maxRecDepth 100000
def ptsOf (s : List (Elem kc)) : List (Elem k3) := s.flatMap mps
def refP (ps : List (Elem k3)) (t : Int) : Nat := ps.countP fun p => p.1 == t && decide (t > 0)
def g113 : G1
  | [.agg us, .val (.int .i64 t)], [], k => match coreOf us with
    | some c => br (smCo c) (k ⟨.val (.int .i64 (refP (ptsOf c.2.1) t)), [], []⟩) False
    | none => False
  | _, _, _ => False
def cntK (d : List (Elem k3)) (s : List (Elem kc)) (i : Nat) : Bool := (refP (ptsOf s) (atP d i).2.1 : Int) == (atP d i).2.2.1
def allC (d : List (Elem k3)) : Int := (d.map fun e => e.2.2.1).sum
def liveP (ps : List (Elem k3)) : Nat := ps.countP fun p => decide (p.1 > 0)
def cntS (d : List (Elem k3)) (s : List (Elem kc)) : Bool := allB d.length (cntK d s) && (allC d - liveP (ptsOf s) == 0)
def g56 : G1
  | [.agg us], [], k => match coreOf us with
    | some c => br (smCo c && ddtOk c.2.2.1) (k ⟨.val (.bool (cntS c.2.2.1 c.2.1)), [], []⟩) False
    | none => False
  | _, _, _ => False
def sumK (d : List (Elem k3)) (p : Elem k3) : Bool := !(decide (p.1 > 0)) || (okD d p.1 && ((atP d (lnD d p.1)).1 == p.2.1))
def g57 : G1
  | [.agg us], [], k => match coreOf us with
    | some c => br (smCo c) (k ⟨.val (.bool ((ptsOf c.2.1).all (sumK c.2.2.1))), [], []⟩) False
    | none => False
  | _, _, _ => False
def mapK (e : Elem kc) : List AV := [.val (.int .i64 e.2.2.2.1), .val (.int .i64 e.2.2.2.2.1), .val (.int .i64 e.2.2.2.2.2.1), .val (.int .i64 e.2.2.2.2.2.2.1), .val (.int .i64 e.2.2.2.2.2.2.2.1), .val (.int .i64 e.2.2.2.2.2.2.2.2.1), .val (.int .i64 e.2.2.2.2.2.2.2.2.2.1), .val (.int .i64 e.2.2.2.2.2.2.2.2.2.2.1), .val (.int .i64 e.2.2.2.2.2.2.2.2.2.2.2.1), .val (.int .i64 e.2.2.2.2.2.2.2.2.2.2.2.2.1), .val (.int .i64 e.2.2.2.2.2.2.2.2.2.2.2.2.2.1), .val (.int .i64 e.2.2.2.2.2.2.2.2.2.2.2.2.2.2.1), .val (.int .i64 e.2.2.2.2.2.2.2.2.2.2.2.2.2.2.2.1), .val (.int .i64 e.2.2.2.2.2.2.2.2.2.2.2.2.2.2.2.2.1), .val (.int .i64 e.2.2.2.2.2.2.2.2.2.2.2.2.2.2.2.2.2.1), .val (.int .i64 e.2.2.2.2.2.2.2.2.2.2.2.2.2.2.2.2.2.2.1), .val (.int .i64 e.2.2.2.2.2.2.2.2.2.2.2.2.2.2.2.2.2.2.2.1), .val (.int .i64 e.2.2.2.2.2.2.2.2.2.2.2.2.2.2.2.2.2.2.2.2.1), .val (.int .i64 e.2.2.2.2.2.2.2.2.2.2.2.2.2.2.2.2.2.2.2.2.2.1), .val (.int .i64 e.2.2.2.2.2.2.2.2.2.2.2.2.2.2.2.2.2.2.2.2.2.2.1), .val (.int .i64 e.2.2.2.2.2.2.2.2.2.2.2.2.2.2.2.2.2.2.2.2.2.2.2.1), .val (.int .i64 e.2.2.2.2.2.2.2.2.2.2.2.2.2.2.2.2.2.2.2.2.2.2.2.2.1), .val (.int .i64 e.2.2.2.2.2.2.2.2.2.2.2.2.2.2.2.2.2.2.2.2.2.2.2.2.2.1), .val (.int .i64 e.2.2.2.2.2.2.2.2.2.2.2.2.2.2.2.2.2.2.2.2.2.2.2.2.2.2.1)]
theorem pts_len : ∀ (s : List (Elem kc)), (ptsOf s).length = 8 * s.length
  | [] => rfl
  | e :: s => by
    show (mps e ++ ptsOf s).length = _
    rw [List.length_append, pts_len s, List.length_cons]
    show 8 + _ = _
    omega
def preP (s : List (Elem kc)) (i j : Nat) : List (Elem k3) := ptsOf (s.take i) ++ (mps (atC s i)).take j
theorem pre_next (s : List (Elem kc)) (i : Nat) {j : Nat} (hj : j < 8) : preP s i (j + 1) = preP s i j ++ [atP (mps (atC s i)) j] := by
  unfold preP
  have hl : j < (mps (atC s i)).length := hj
  rw [List.take_add_one, List.append_assoc, List.getElem?_eq_getElem hl, atP, List.getD_eq_getElem?_getD, List.getElem?_eq_getElem hl]
  rfl
theorem pts_append (a c : List (Elem kc)) : ptsOf (a ++ c) = ptsOf a ++ ptsOf c := List.flatMap_append
theorem pts_one (e : Elem kc) : ptsOf [e] = mps e := by simp [ptsOf]
theorem take_next {α : Type} (s : List α) (dd : α) {i : Nat} (hi : i < s.length) : s.take (i + 1) = s.take i ++ [s.getD i dd] := by
  rw [List.take_add_one, List.getD_eq_getElem?_getD, List.getElem?_eq_getElem hi]
  rfl
theorem pre_end {s : List (Elem kc)} {i : Nat} (hi : i < s.length) : preP s i 8 = preP s (i + 1) 0 := by
  unfold preP
  rw [take_next s (edflt kc) hi, pts_append, pts_one, List.take_zero, List.append_nil, List.take_of_length_le (Nat.le_of_eq (show (mps (atC s i)).length = 8 from rfl))]
theorem pre_all (s : List (Elem kc)) : preP s s.length 0 = ptsOf s := by
  unfold preP
  rw [List.take_length, List.take_zero, List.append_nil]
theorem pre_zero (s : List (Elem kc)) : preP s 0 0 = [] := by
  unfold preP
  rw [List.take_zero, List.take_zero]
  rfl
theorem pre_len (s : List (Elem kc)) (i j : Nat) : (preP s i j).length ≤ 8 * s.length + 8 := by
  unfold preP
  rw [List.length_append, pts_len, List.length_take, List.length_take]
  show 8 * min i s.length + min j 8 ≤ _
  omega
theorem pts_mem {s : List (Elem kc)} {i j : Nat} (hi : i < s.length) (hj : j < 8) : atP (mps (atC s i)) j ∈ ptsOf s := by
  unfold ptsOf
  rw [List.mem_flatMap]
  exact ⟨atC s i, getD_mem _ hi, getD_mem (xs := mps (atC s i)) _ hj⟩
theorem refP_next (l : List (Elem k3)) (e : Elem k3) (t : Int) : refP (l ++ [e]) t = refP l t + if (e.1 == t && decide (t > 0)) = true then 1 else 0 := by
  unfold refP
  rw [List.countP_append, List.countP_cons, List.countP_nil]
  simp
theorem liveP_next (l : List (Elem k3)) (e : Elem k3) : liveP (l ++ [e]) = liveP l + if decide (e.1 > 0) = true then 1 else 0 := by
  unfold liveP
  rw [List.countP_append, List.countP_cons, List.countP_nil]
  simp
theorem refP_le (l : List (Elem k3)) (t : Int) : refP l t ≤ l.length := List.countP_le_length
theorem liveP_le (l : List (Elem k3)) : liveP l ≤ l.length := List.countP_le_length
noncomputable def E113 : Env := Ef.of Tryd.f113
noncomputable def G113 : Gk := gk []
noncomputable def lp113 (n : Nat) : Code := (loopOf n (codeOf Tryd.f113)).getD .skip
noncomputable def ct113 (L : Lp) (R : Option Res → Prop) (n : Nat) : Kt := contOf E113 G113 L n (codeOf Tryd.f113) (endK E113 Tryd.f113.results.toList R)
noncomputable def rk113 (L : Lp) (R : Option Res → Prop) (n : Nat) (N : St → Prop) : Kt := rk (jof E113 (lp113 n)) N (ct113 L R n)
noncomputable def rkn113 (L : Lp) (R : Option Res → Prop) (n : Nat) (N : St → Prop) (m : Nat) (N2 : St → Prop) : Kt := rk (jof E113 (lp113 m)) N2 (contOf E113 G113 L m (lp113 n) (rk113 L R n N))
noncomputable def LOOPN113 (L : Lp) (R : Option Res → Prop) (n : Nat) (N : St → Prop) (m : Nat) (st : St) : Prop := L (lp113 m) st (contOf E113 G113 L m (lp113 n) (rk113 L R n N))
noncomputable def LOOP113 (L : Lp) (R : Option Res → Prop) (n : Nat) (st : St) : Prop := L (lp113 n) st (ct113 L R n)
theorem hg113 : HG Tryd.prog G113 := hg_nil
theorem okf113 : Ok Tryd.prog E113 := okf.of Tryd.f113
theorem e113 (L : Lp) (R : Option Res → Prop) (x : Int) (s : List (Elem kc)) (d p : List (Elem k3)) (b : Bool) (f : List (Elem ki)) (n : Int) (t : Int) : (bodyP Ef G113 L Tryd.f113 [coreAV x s d p b f n, .val (.int .i64 t)] [] R) = (
    LOOP113 L R 3 { tm := [vJ, vI t, AV.ptr 0 0, vJ, vJ, vI 0, vI 0, vJ, vJ, vJ, vJ, vJ, vJ, vJ, vJ, vJ, vJ, vJ, vJ, vJ, vJ, vJ, vJ, vJ, vJ, vJ, vJ, vJ, vJ, vJ, vJ, vJ, vJ, vJ, vJ, vJ, vJ], ob := [(0, AO.box [vI x, AV.rsl kc s, AV.rsl k3 d, AV.rsl k3 p, vB b, AV.rsl ki f, vI n])], nx := 1000000, ps := [] }) := by kernel_rfl
def st113 (x : Int) (s : List (Elem kc)) (d p : List (Elem k3)) (b : Bool) (f : List (Elem ki)) (n : Int) (t m i : Int) : St :=  ⟨[vJ, vI t, AV.ptr 0 0, vJ, vJ, .val (.int .i64 m), .val (.int .i64 i), vJ, vJ, vJ, vJ, vJ, vJ, vJ, vJ, vJ, vJ, vJ, vJ, vJ, vJ, vJ, vJ, vJ, vJ, vJ, vJ, vJ, vJ, vJ, vJ, vJ, vJ, vJ, vJ, vJ, vJ], [(0, AO.box [vI x, AV.rsl kc s, AV.rsl k3 d, AV.rsl k3 p, vB b, AV.rsl ki f, vI n])], 1000000, []⟩
theorem b113 (L : Lp) (R : Option Res → Prop) (N : St → Prop) (x : Int) (s : List (Elem kc)) (d p : List (Elem k3)) (b : Bool) (f : List (Elem ki)) (n : Int) (t m i : Int) : (evP E113 G113 L (lp113 3) (st113 x s d p b f n t m i) (rk113 L R 3 N)) = (
    br (decide (i < (↑s.length : Int))) (LOOPN113 L R 3 N 6 { tm := [vJ, vI t, AV.ptr 0 0, vJ, vJ, vI m, vI i, vI 0, vJ, vJ, vJ, vJ, vJ, vJ, vJ, vJ, vJ, vJ, vJ, vJ, vJ, vJ, vJ, vJ, vJ, vJ, vJ, vJ, vJ, vJ, vJ, vJ, vJ, vJ, vJ, vJ, vJ], ob := [(0, AO.box [vI x, AV.rsl kc s, AV.rsl k3 d, AV.rsl k3 p, vB b, AV.rsl ki f, vI n])], nx := 1000000, ps := [] }) (R (some { av := vI m, obs := [], outs := [] }))) := by kernel_rfl
def si113 (x : Int) (s : List (Elem kc)) (d p : List (Elem k3)) (b : Bool) (f : List (Elem ki)) (n : Int) (t m i j : Int) : St :=  ⟨[vJ, vI t, AV.ptr 0 0, vJ, vJ, .val (.int .i64 m), .val (.int .i64 i), .val (.int .i64 j), vJ, vJ, vJ, vJ, vJ, vJ, vJ, vJ, vJ, vJ, vJ, vJ, vJ, vJ, vJ, vJ, vJ, vJ, vJ, vJ, vJ, vJ, vJ, vJ, vJ, vJ, vJ, vJ, vJ], [(0, AO.box [vI x, AV.rsl kc s, AV.rsl k3 d, AV.rsl k3 p, vB b, AV.rsl ki f, vI n])], 1000000, []⟩
theorem bi113_0 (L : Lp) (R : Option Res → Prop) (N N2 : St → Prop) (x : Int) (s : List (Elem kc)) (d p : List (Elem k3)) (b : Bool) (f : List (Elem ki)) (n : Int) (t m q : Int) : (evP E113 G113 L (lp113 6) (si113 x s d p b f n t m q 0) (rkn113 L R 3 N 6 N2)) = (
    br (decide (0 ≤ q ∧ q < (↑s.length : Int))) (br ((s.getD q.toNat (edflt kc)).snd.snd.snd.fst == t) (br (decide (t > 0)) (N2 { tm := [vJ, vI t, AV.ptr 0 0, vJ, vJ, vI (IntKind.i64.wrap (m + 1)), vI q, vI 1, vJ, vJ, vJ, vJ, vJ, vJ, vJ, vJ, vJ, vJ, vJ, vJ, vJ, vJ, vJ, vJ, vJ, vJ, vJ, vJ, vJ, vJ, vJ, vJ, vJ, vJ, vJ, vJ, vJ], ob := [(0, AO.box [vI x, AV.rsl kc s, AV.rsl k3 d, AV.rsl k3 p, vB b, AV.rsl ki f, vI n])], nx := 1000000, ps := [] }) (N2 { tm := [vJ, vI t, AV.ptr 0 0, vJ, vJ, vI m, vI q, vI 1, vJ, vJ, vJ, vJ, vJ, vJ, vJ, vJ, vJ, vJ, vJ, vJ, vJ, vJ, vJ, vJ, vJ, vJ, vJ, vJ, vJ, vJ, vJ, vJ, vJ, vJ, vJ, vJ, vJ], ob := [(0, AO.box [vI x, AV.rsl kc s, AV.rsl k3 d, AV.rsl k3 p, vB b, AV.rsl ki f, vI n])], nx := 1000000, ps := [] })) (N2 { tm := [vJ, vI t, AV.ptr 0 0, vJ, vJ, vI m, vI q, vI 1, vJ, vJ, vJ, vJ, vJ, vJ, vJ, vJ, vJ, vJ, vJ, vJ, vJ, vJ, vJ, vJ, vJ, vJ, vJ, vJ, vJ, vJ, vJ, vJ, vJ, vJ, vJ, vJ, vJ], ob := [(0, AO.box [vI x, AV.rsl kc s, AV.rsl k3 d, AV.rsl k3 p, vB b, AV.rsl ki f, vI n])], nx := 1000000, ps := [] })) False) := by kernel_rfl
theorem bi113_1 (L : Lp) (R : Option Res → Prop) (N N2 : St → Prop) (x : Int) (s : List (Elem kc)) (d p : List (Elem k3)) (b : Bool) (f : List (Elem ki)) (n : Int) (t m q : Int) : (evP E113 G113 L (lp113 6) (si113 x s d p b f n t m q 1) (rkn113 L R 3 N 6 N2)) = (
    br (decide (0 ≤ q ∧ q < (↑s.length : Int))) (br ((s.getD q.toNat (edflt kc)).snd.snd.snd.snd.snd.snd.fst == t) (br (decide (t > 0)) (N2 { tm := [vJ, vI t, AV.ptr 0 0, vJ, vJ, vI (IntKind.i64.wrap (m + 1)), vI q, vI 2, vJ, vJ, vJ, vJ, vJ, vJ, vJ, vJ, vJ, vJ, vJ, vJ, vJ, vJ, vJ, vJ, vJ, vJ, vJ, vJ, vJ, vJ, vJ, vJ, vJ, vJ, vJ, vJ, vJ], ob := [(0, AO.box [vI x, AV.rsl kc s, AV.rsl k3 d, AV.rsl k3 p, vB b, AV.rsl ki f, vI n])], nx := 1000000, ps := [] }) (N2 { tm := [vJ, vI t, AV.ptr 0 0, vJ, vJ, vI m, vI q, vI 2, vJ, vJ, vJ, vJ, vJ, vJ, vJ, vJ, vJ, vJ, vJ, vJ, vJ, vJ, vJ, vJ, vJ, vJ, vJ, vJ, vJ, vJ, vJ, vJ, vJ, vJ, vJ, vJ, vJ], ob := [(0, AO.box [vI x, AV.rsl kc s, AV.rsl k3 d, AV.rsl k3 p, vB b, AV.rsl ki f, vI n])], nx := 1000000, ps := [] })) (N2 { tm := [vJ, vI t, AV.ptr 0 0, vJ, vJ, vI m, vI q, vI 2, vJ, vJ, vJ, vJ, vJ, vJ, vJ, vJ, vJ, vJ, vJ, vJ, vJ, vJ, vJ, vJ, vJ, vJ, vJ, vJ, vJ, vJ, vJ, vJ, vJ, vJ, vJ, vJ, vJ], ob := [(0, AO.box [vI x, AV.rsl kc s, AV.rsl k3 d, AV.rsl k3 p, vB b, AV.rsl ki f, vI n])], nx := 1000000, ps := [] })) False) := by kernel_rfl
theorem bi113_2 (L : Lp) (R : Option Res → Prop) (N N2 : St → Prop) (x : Int) (s : List (Elem kc)) (d p : List (Elem k3)) (b : Bool) (f : List (Elem ki)) (n : Int) (t m q : Int) : (evP E113 G113 L (lp113 6) (si113 x s d p b f n t m q 2) (rkn113 L R 3 N 6 N2)) = (
    br (decide (0 ≤ q ∧ q < (↑s.length : Int))) (br ((s.getD q.toNat (edflt kc)).snd.snd.snd.snd.snd.snd.snd.snd.snd.fst == t) (br (decide (t > 0)) (N2 { tm := [vJ, vI t, AV.ptr 0 0, vJ, vJ, vI (IntKind.i64.wrap (m + 1)), vI q, vI 3, vJ, vJ, vJ, vJ, vJ, vJ, vJ, vJ, vJ, vJ, vJ, vJ, vJ, vJ, vJ, vJ, vJ, vJ, vJ, vJ, vJ, vJ, vJ, vJ, vJ, vJ, vJ, vJ, vJ], ob := [(0, AO.box [vI x, AV.rsl kc s, AV.rsl k3 d, AV.rsl k3 p, vB b, AV.rsl ki f, vI n])], nx := 1000000, ps := [] }) (N2 { tm := [vJ, vI t, AV.ptr 0 0, vJ, vJ, vI m, vI q, vI 3, vJ, vJ, vJ, vJ, vJ, vJ, vJ, vJ, vJ, vJ, vJ, vJ, vJ, vJ, vJ, vJ, vJ, vJ, vJ, vJ, vJ, vJ, vJ, vJ, vJ, vJ, vJ, vJ, vJ], ob := [(0, AO.box [vI x, AV.rsl kc s, AV.rsl k3 d, AV.rsl k3 p, vB b, AV.rsl ki f, vI n])], nx := 1000000, ps := [] })) (N2 { tm := [vJ, vI t, AV.ptr 0 0, vJ, vJ, vI m, vI q, vI 3, vJ, vJ, vJ, vJ, vJ, vJ, vJ, vJ, vJ, vJ, vJ, vJ, vJ, vJ, vJ, vJ, vJ, vJ, vJ, vJ, vJ, vJ, vJ, vJ, vJ, vJ, vJ, vJ, vJ], ob := [(0, AO.box [vI x, AV.rsl kc s, AV.rsl k3 d, AV.rsl k3 p, vB b, AV.rsl ki f, vI n])], nx := 1000000, ps := [] })) False) := by kernel_rfl
theorem bi113_3 (L : Lp) (R : Option Res → Prop) (N N2 : St → Prop) (x : Int) (s : List (Elem kc)) (d p : List (Elem k3)) (b : Bool) (f : List (Elem ki)) (n : Int) (t m q : Int) : (evP E113 G113 L (lp113 6) (si113 x s d p b f n t m q 3) (rkn113 L R 3 N 6 N2)) = (
    br (decide (0 ≤ q ∧ q < (↑s.length : Int))) (br ((s.getD q.toNat (edflt kc)).snd.snd.snd.snd.snd.snd.snd.snd.snd.snd.snd.snd.fst == t) (br (decide (t > 0)) (N2 { tm := [vJ, vI t, AV.ptr 0 0, vJ, vJ, vI (IntKind.i64.wrap (m + 1)), vI q, vI 4, vJ, vJ, vJ, vJ, vJ, vJ, vJ, vJ, vJ, vJ, vJ, vJ, vJ, vJ, vJ, vJ, vJ, vJ, vJ, vJ, vJ, vJ, vJ, vJ, vJ, vJ, vJ, vJ, vJ], ob := [(0, AO.box [vI x, AV.rsl kc s, AV.rsl k3 d, AV.rsl k3 p, vB b, AV.rsl ki f, vI n])], nx := 1000000, ps := [] }) (N2 { tm := [vJ, vI t, AV.ptr 0 0, vJ, vJ, vI m, vI q, vI 4, vJ, vJ, vJ, vJ, vJ, vJ, vJ, vJ, vJ, vJ, vJ, vJ, vJ, vJ, vJ, vJ, vJ, vJ, vJ, vJ, vJ, vJ, vJ, vJ, vJ, vJ, vJ, vJ, vJ], ob := [(0, AO.box [vI x, AV.rsl kc s, AV.rsl k3 d, AV.rsl k3 p, vB b, AV.rsl ki f, vI n])], nx := 1000000, ps := [] })) (N2 { tm := [vJ, vI t, AV.ptr 0 0, vJ, vJ, vI m, vI q, vI 4, vJ, vJ, vJ, vJ, vJ, vJ, vJ, vJ, vJ, vJ, vJ, vJ, vJ, vJ, vJ, vJ, vJ, vJ, vJ, vJ, vJ, vJ, vJ, vJ, vJ, vJ, vJ, vJ, vJ], ob := [(0, AO.box [vI x, AV.rsl kc s, AV.rsl k3 d, AV.rsl k3 p, vB b, AV.rsl ki f, vI n])], nx := 1000000, ps := [] })) False) := by kernel_rfl
theorem bi113_4 (L : Lp) (R : Option Res → Prop) (N N2 : St → Prop) (x : Int) (s : List (Elem kc)) (d p : List (Elem k3)) (b : Bool) (f : List (Elem ki)) (n : Int) (t m q : Int) : (evP E113 G113 L (lp113 6) (si113 x s d p b f n t m q 4) (rkn113 L R 3 N 6 N2)) = (
    br (decide (0 ≤ q ∧ q < (↑s.length : Int))) (br ((s.getD q.toNat (edflt kc)).snd.snd.snd.snd.snd.snd.snd.snd.snd.snd.snd.snd.snd.snd.snd.fst == t) (br (decide (t > 0)) (N2 { tm := [vJ, vI t, AV.ptr 0 0, vJ, vJ, vI (IntKind.i64.wrap (m + 1)), vI q, vI 5, vJ, vJ, vJ, vJ, vJ, vJ, vJ, vJ, vJ, vJ, vJ, vJ, vJ, vJ, vJ, vJ, vJ, vJ, vJ, vJ, vJ, vJ, vJ, vJ, vJ, vJ, vJ, vJ, vJ], ob := [(0, AO.box [vI x, AV.rsl kc s, AV.rsl k3 d, AV.rsl k3 p, vB b, AV.rsl ki f, vI n])], nx := 1000000, ps := [] }) (N2 { tm := [vJ, vI t, AV.ptr 0 0, vJ, vJ, vI m, vI q, vI 5, vJ, vJ, vJ, vJ, vJ, vJ, vJ, vJ, vJ, vJ, vJ, vJ, vJ, vJ, vJ, vJ, vJ, vJ, vJ, vJ, vJ, vJ, vJ, vJ, vJ, vJ, vJ, vJ, vJ], ob := [(0, AO.box [vI x, AV.rsl kc s, AV.rsl k3 d, AV.rsl k3 p, vB b, AV.rsl ki f, vI n])], nx := 1000000, ps := [] })) (N2 { tm := [vJ, vI t, AV.ptr 0 0, vJ, vJ, vI m, vI q, vI 5, vJ, vJ, vJ, vJ, vJ, vJ, vJ, vJ, vJ, vJ, vJ, vJ, vJ, vJ, vJ, vJ, vJ, vJ, vJ, vJ, vJ, vJ, vJ, vJ, vJ, vJ, vJ, vJ, vJ], ob := [(0, AO.box [vI x, AV.rsl kc s, AV.rsl k3 d, AV.rsl k3 p, vB b, AV.rsl ki f, vI n])], nx := 1000000, ps := [] })) False) := by kernel_rfl
theorem bi113_5 (L : Lp) (R : Option Res → Prop) (N N2 : St → Prop) (x : Int) (s : List (Elem kc)) (d p : List (Elem k3)) (b : Bool) (f : List (Elem ki)) (n : Int) (t m q : Int) : (evP E113 G113 L (lp113 6) (si113 x s d p b f n t m q 5) (rkn113 L R 3 N 6 N2)) = (
    br (decide (0 ≤ q ∧ q < (↑s.length : Int))) (br ((s.getD q.toNat (edflt kc)).snd.snd.snd.snd.snd.snd.snd.snd.snd.snd.snd.snd.snd.snd.snd.snd.snd.snd.fst == t) (br (decide (t > 0)) (N2 { tm := [vJ, vI t, AV.ptr 0 0, vJ, vJ, vI (IntKind.i64.wrap (m + 1)), vI q, vI 6, vJ, vJ, vJ, vJ, vJ, vJ, vJ, vJ, vJ, vJ, vJ, vJ, vJ, vJ, vJ, vJ, vJ, vJ, vJ, vJ, vJ, vJ, vJ, vJ, vJ, vJ, vJ, vJ, vJ], ob := [(0, AO.box [vI x, AV.rsl kc s, AV.rsl k3 d, AV.rsl k3 p, vB b, AV.rsl ki f, vI n])], nx := 1000000, ps := [] }) (N2 { tm := [vJ, vI t, AV.ptr 0 0, vJ, vJ, vI m, vI q, vI 6, vJ, vJ, vJ, vJ, vJ, vJ, vJ, vJ, vJ, vJ, vJ, vJ, vJ, vJ, vJ, vJ, vJ, vJ, vJ, vJ, vJ, vJ, vJ, vJ, vJ, vJ, vJ, vJ, vJ], ob := [(0, AO.box [vI x, AV.rsl kc s, AV.rsl k3 d, AV.rsl k3 p, vB b, AV.rsl ki f, vI n])], nx := 1000000, ps := [] })) (N2 { tm := [vJ, vI t, AV.ptr 0 0, vJ, vJ, vI m, vI q, vI 6, vJ, vJ, vJ, vJ, vJ, vJ, vJ, vJ, vJ, vJ, vJ, vJ, vJ, vJ, vJ, vJ, vJ, vJ, vJ, vJ, vJ, vJ, vJ, vJ, vJ, vJ, vJ, vJ, vJ], ob := [(0, AO.box [vI x, AV.rsl kc s, AV.rsl k3 d, AV.rsl k3 p, vB b, AV.rsl ki f, vI n])], nx := 1000000, ps := [] })) False) := by kernel_rfl
theorem bi113_6 (L : Lp) (R : Option Res → Prop) (N N2 : St → Prop) (x : Int) (s : List (Elem kc)) (d p : List (Elem k3)) (b : Bool) (f : List (Elem ki)) (n : Int) (t m q : Int) : (evP E113 G113 L (lp113 6) (si113 x s d p b f n t m q 6) (rkn113 L R 3 N 6 N2)) = (
    br (decide (0 ≤ q ∧ q < (↑s.length : Int))) (br ((s.getD q.toNat (edflt kc)).snd.snd.snd.snd.snd.snd.snd.snd.snd.snd.snd.snd.snd.snd.snd.snd.snd.snd.snd.snd.snd.fst == t) (br (decide (t > 0)) (N2 { tm := [vJ, vI t, AV.ptr 0 0, vJ, vJ, vI (IntKind.i64.wrap (m + 1)), vI q, vI 7, vJ, vJ, vJ, vJ, vJ, vJ, vJ, vJ, vJ, vJ, vJ, vJ, vJ, vJ, vJ, vJ, vJ, vJ, vJ, vJ, vJ, vJ, vJ, vJ, vJ, vJ, vJ, vJ, vJ], ob := [(0, AO.box [vI x, AV.rsl kc s, AV.rsl k3 d, AV.rsl k3 p, vB b, AV.rsl ki f, vI n])], nx := 1000000, ps := [] }) (N2 { tm := [vJ, vI t, AV.ptr 0 0, vJ, vJ, vI m, vI q, vI 7, vJ, vJ, vJ, vJ, vJ, vJ, vJ, vJ, vJ, vJ, vJ, vJ, vJ, vJ, vJ, vJ, vJ, vJ, vJ, vJ, vJ, vJ, vJ, vJ, vJ, vJ, vJ, vJ, vJ], ob := [(0, AO.box [vI x, AV.rsl kc s, AV.rsl k3 d, AV.rsl k3 p, vB b, AV.rsl ki f, vI n])], nx := 1000000, ps := [] })) (N2 { tm := [vJ, vI t, AV.ptr 0 0, vJ, vJ, vI m, vI q, vI 7, vJ, vJ, vJ, vJ, vJ, vJ, vJ, vJ, vJ, vJ, vJ, vJ, vJ, vJ, vJ, vJ, vJ, vJ, vJ, vJ, vJ, vJ, vJ, vJ, vJ, vJ, vJ, vJ, vJ], ob := [(0, AO.box [vI x, AV.rsl kc s, AV.rsl k3 d, AV.rsl k3 p, vB b, AV.rsl ki f, vI n])], nx := 1000000, ps := [] })) False) := by kernel_rfl
theorem bi113_7 (L : Lp) (R : Option Res → Prop) (N N2 : St → Prop) (x : Int) (s : List (Elem kc)) (d p : List (Elem k3)) (b : Bool) (f : List (Elem ki)) (n : Int) (t m q : Int) : (evP E113 G113 L (lp113 6) (si113 x s d p b f n t m q 7) (rkn113 L R 3 N 6 N2)) = (
    br (decide (0 ≤ q ∧ q < (↑s.length : Int))) (br ((s.getD q.toNat (edflt kc)).snd.snd.snd.snd.snd.snd.snd.snd.snd.snd.snd.snd.snd.snd.snd.snd.snd.snd.snd.snd.snd.snd.snd.snd.fst == t) (br (decide (t > 0)) (N2 { tm := [vJ, vI t, AV.ptr 0 0, vJ, vJ, vI (IntKind.i64.wrap (m + 1)), vI q, vI 8, vJ, vJ, vJ, vJ, vJ, vJ, vJ, vJ, vJ, vJ, vJ, vJ, vJ, vJ, vJ, vJ, vJ, vJ, vJ, vJ, vJ, vJ, vJ, vJ, vJ, vJ, vJ, vJ, vJ], ob := [(0, AO.box [vI x, AV.rsl kc s, AV.rsl k3 d, AV.rsl k3 p, vB b, AV.rsl ki f, vI n])], nx := 1000000, ps := [] }) (N2 { tm := [vJ, vI t, AV.ptr 0 0, vJ, vJ, vI m, vI q, vI 8, vJ, vJ, vJ, vJ, vJ, vJ, vJ, vJ, vJ, vJ, vJ, vJ, vJ, vJ, vJ, vJ, vJ, vJ, vJ, vJ, vJ, vJ, vJ, vJ, vJ, vJ, vJ, vJ, vJ], ob := [(0, AO.box [vI x, AV.rsl kc s, AV.rsl k3 d, AV.rsl k3 p, vB b, AV.rsl ki f, vI n])], nx := 1000000, ps := [] })) (N2 { tm := [vJ, vI t, AV.ptr 0 0, vJ, vJ, vI m, vI q, vI 8, vJ, vJ, vJ, vJ, vJ, vJ, vJ, vJ, vJ, vJ, vJ, vJ, vJ, vJ, vJ, vJ, vJ, vJ, vJ, vJ, vJ, vJ, vJ, vJ, vJ, vJ, vJ, vJ, vJ], ob := [(0, AO.box [vI x, AV.rsl kc s, AV.rsl k3 d, AV.rsl k3 p, vB b, AV.rsl ki f, vI n])], nx := 1000000, ps := [] })) False) := by kernel_rfl
theorem bi113_8 (L : Lp) (R : Option Res → Prop) (N N2 : St → Prop) (x : Int) (s : List (Elem kc)) (d p : List (Elem k3)) (b : Bool) (f : List (Elem ki)) (n : Int) (t m q : Int) : (evP E113 G113 L (lp113 6) (si113 x s d p b f n t m q 8) (rkn113 L R 3 N 6 N2)) = (
    N { tm := [vJ, vI t, AV.ptr 0 0, vJ, vJ, vI m, vI (IntKind.i64.wrap (q + 1)), vJ, vJ, vJ, vJ, vJ, vJ, vJ, vJ, vJ, vJ, vJ, vJ, vJ, vJ, vJ, vJ, vJ, vJ, vJ, vJ, vJ, vJ, vJ, vJ, vJ, vJ, vJ, vJ, vJ, vJ], ob := [(0, AO.box [vI x, AV.rsl kc s, AV.rsl k3 d, AV.rsl k3 p, vB b, AV.rsl ki f, vI n])], nx := 1000000, ps := [] }) := by kernel_rfl
theorem h113 : G1Ok Tryd.prog 113 g113 := by
  intro args obs k h
  unfold g113 at h
  split at h
  · rename_i k us t
    split at h
    rotate_left
    · exact h.elim
    rename_i c hc
    obtain rfl := coreOf_inv hc
    obtain ⟨x, s, d, p, b, f, n⟩ := c
    obtain ⟨hp, h⟩ := br_and h
    have hl : s.length ≤ 1048576 := smCo_s hp
    refine ⟨_, ctr_fn okf hg113 Tryd.func113 (by kernel_rfl) (by kernel_rfl) (by kernel_rfl) fun C => ?_, h⟩
    show bodyP Ef G113 _ Tryd.f113 [coreAV x s d p b f n, .val (.int .i64 t)] [] _
    rw [e113]
    refine loopUp okf113 hg113 (fun i m => st113 x s d p b f n t m i) s.length (fun i m => m = (refP (preP s i 0) t : Int)) (fun N i m hi hm next => ?_) 0 (by rw [pre_zero]; rfl)
    show evP E113 G113 _ (lp113 3) (st113 x s d p b f n t m i) (rk113 _ _ 3 _)
    rw [b113]
    refine br_dec (fun h2 => ?_) (fun h2 => ?_)
    · refine loopUp okf113 hg113 (fun j m => si113 x s d p b f n t m i j) 8 (fun j m => m = (refP (preP s i j) t : Int)) (fun N2 j m hj hm next2 => ?_) m hm
      have hle := refP_le (preP s i j) t
      have hle2 := pre_len s i j
      have cs : j = 0 ∨ j = 1 ∨ j = 2 ∨ j = 3 ∨ j = 4 ∨ j = 5 ∨ j = 6 ∨ j = 7 ∨ j = 8 := by omega
      rcases cs with rfl | rfl | rfl | rfl | rfl | rfl | rfl | rfl | rfl
      · show evP E113 G113 _ (lp113 6) (si113 x s d p b f n t m i 0) (rkn113 _ _ 3 N 6 _)
        have hn := refP_next (preP s i 0) (atP (mps (atC s i)) 0) t
        rw [← pre_next s i (j := 0) (by omega)] at hn
        rw [bi113_0, Int.toNat_natCast, wrap_id (n := m + 1) (by omega) (by omega)]
        refine br_yes ⟨by omega, h2⟩ (br_intro (fun h3 => br_intro (fun h4 => ?_) (fun h4 => ?_)) (fun h3 => ?_))
        · refine next2 (by omega) _ ?_
          rw [if_pos (by rw [show ((atP (mps (atC s i)) 0).1 == t) = true from h3, h4]; rfl)] at hn
          rw [hn]
          omega
        · refine next2 (by omega) _ ?_
          rw [if_neg (by rw [h4, Bool.and_false]; exact Bool.false_ne_true)] at hn
          rw [hn]
          omega
        · refine next2 (by omega) _ ?_
          rw [if_neg (by rw [show ((atP (mps (atC s i)) 0).1 == t) = false from h3]; exact Bool.false_ne_true)] at hn
          rw [hn]
          omega
      · show evP E113 G113 _ (lp113 6) (si113 x s d p b f n t m i 1) (rkn113 _ _ 3 N 6 _)
        have hn := refP_next (preP s i 1) (atP (mps (atC s i)) 1) t
        rw [← pre_next s i (j := 1) (by omega)] at hn
        rw [bi113_1, Int.toNat_natCast, wrap_id (n := m + 1) (by omega) (by omega)]
        refine br_yes ⟨by omega, h2⟩ (br_intro (fun h3 => br_intro (fun h4 => ?_) (fun h4 => ?_)) (fun h3 => ?_))
        · refine next2 (by omega) _ ?_
          rw [if_pos (by rw [show ((atP (mps (atC s i)) 1).1 == t) = true from h3, h4]; rfl)] at hn
          rw [hn]
          omega
        · refine next2 (by omega) _ ?_
          rw [if_neg (by rw [h4, Bool.and_false]; exact Bool.false_ne_true)] at hn
          rw [hn]
          omega
        · refine next2 (by omega) _ ?_
          rw [if_neg (by rw [show ((atP (mps (atC s i)) 1).1 == t) = false from h3]; exact Bool.false_ne_true)] at hn
          rw [hn]
          omega
      · show evP E113 G113 _ (lp113 6) (si113 x s d p b f n t m i 2) (rkn113 _ _ 3 N 6 _)
        have hn := refP_next (preP s i 2) (atP (mps (atC s i)) 2) t
        rw [← pre_next s i (j := 2) (by omega)] at hn
        rw [bi113_2, Int.toNat_natCast, wrap_id (n := m + 1) (by omega) (by omega)]
        refine br_yes ⟨by omega, h2⟩ (br_intro (fun h3 => br_intro (fun h4 => ?_) (fun h4 => ?_)) (fun h3 => ?_))
        · refine next2 (by omega) _ ?_
          rw [if_pos (by rw [show ((atP (mps (atC s i)) 2).1 == t) = true from h3, h4]; rfl)] at hn
          rw [hn]
          omega
        · refine next2 (by omega) _ ?_
          rw [if_neg (by rw [h4, Bool.and_false]; exact Bool.false_ne_true)] at hn
          rw [hn]
          omega
        · refine next2 (by omega) _ ?_
          rw [if_neg (by rw [show ((atP (mps (atC s i)) 2).1 == t) = false from h3]; exact Bool.false_ne_true)] at hn
          rw [hn]
          omega
      · show evP E113 G113 _ (lp113 6) (si113 x s d p b f n t m i 3) (rkn113 _ _ 3 N 6 _)
        have hn := refP_next (preP s i 3) (atP (mps (atC s i)) 3) t
        rw [← pre_next s i (j := 3) (by omega)] at hn
        rw [bi113_3, Int.toNat_natCast, wrap_id (n := m + 1) (by omega) (by omega)]
        refine br_yes ⟨by omega, h2⟩ (br_intro (fun h3 => br_intro (fun h4 => ?_) (fun h4 => ?_)) (fun h3 => ?_))
        · refine next2 (by omega) _ ?_
          rw [if_pos (by rw [show ((atP (mps (atC s i)) 3).1 == t) = true from h3, h4]; rfl)] at hn
          rw [hn]
          omega
        · refine next2 (by omega) _ ?_
          rw [if_neg (by rw [h4, Bool.and_false]; exact Bool.false_ne_true)] at hn
          rw [hn]
          omega
        · refine next2 (by omega) _ ?_
          rw [if_neg (by rw [show ((atP (mps (atC s i)) 3).1 == t) = false from h3]; exact Bool.false_ne_true)] at hn
          rw [hn]
          omega
      · show evP E113 G113 _ (lp113 6) (si113 x s d p b f n t m i 4) (rkn113 _ _ 3 N 6 _)
        have hn := refP_next (preP s i 4) (atP (mps (atC s i)) 4) t
        rw [← pre_next s i (j := 4) (by omega)] at hn
        rw [bi113_4, Int.toNat_natCast, wrap_id (n := m + 1) (by omega) (by omega)]
        refine br_yes ⟨by omega, h2⟩ (br_intro (fun h3 => br_intro (fun h4 => ?_) (fun h4 => ?_)) (fun h3 => ?_))
        · refine next2 (by omega) _ ?_
          rw [if_pos (by rw [show ((atP (mps (atC s i)) 4).1 == t) = true from h3, h4]; rfl)] at hn
          rw [hn]
          omega
        · refine next2 (by omega) _ ?_
          rw [if_neg (by rw [h4, Bool.and_false]; exact Bool.false_ne_true)] at hn
          rw [hn]
          omega
        · refine next2 (by omega) _ ?_
          rw [if_neg (by rw [show ((atP (mps (atC s i)) 4).1 == t) = false from h3]; exact Bool.false_ne_true)] at hn
          rw [hn]
          omega
      · show evP E113 G113 _ (lp113 6) (si113 x s d p b f n t m i 5) (rkn113 _ _ 3 N 6 _)
        have hn := refP_next (preP s i 5) (atP (mps (atC s i)) 5) t
        rw [← pre_next s i (j := 5) (by omega)] at hn
        rw [bi113_5, Int.toNat_natCast, wrap_id (n := m + 1) (by omega) (by omega)]
        refine br_yes ⟨by omega, h2⟩ (br_intro (fun h3 => br_intro (fun h4 => ?_) (fun h4 => ?_)) (fun h3 => ?_))
        · refine next2 (by omega) _ ?_
          rw [if_pos (by rw [show ((atP (mps (atC s i)) 5).1 == t) = true from h3, h4]; rfl)] at hn
          rw [hn]
          omega
        · refine next2 (by omega) _ ?_
          rw [if_neg (by rw [h4, Bool.and_false]; exact Bool.false_ne_true)] at hn
          rw [hn]
          omega
        · refine next2 (by omega) _ ?_
          rw [if_neg (by rw [show ((atP (mps (atC s i)) 5).1 == t) = false from h3]; exact Bool.false_ne_true)] at hn
          rw [hn]
          omega
      · show evP E113 G113 _ (lp113 6) (si113 x s d p b f n t m i 6) (rkn113 _ _ 3 N 6 _)
        have hn := refP_next (preP s i 6) (atP (mps (atC s i)) 6) t
        rw [← pre_next s i (j := 6) (by omega)] at hn
        rw [bi113_6, Int.toNat_natCast, wrap_id (n := m + 1) (by omega) (by omega)]
        refine br_yes ⟨by omega, h2⟩ (br_intro (fun h3 => br_intro (fun h4 => ?_) (fun h4 => ?_)) (fun h3 => ?_))
        · refine next2 (by omega) _ ?_
          rw [if_pos (by rw [show ((atP (mps (atC s i)) 6).1 == t) = true from h3, h4]; rfl)] at hn
          rw [hn]
          omega
        · refine next2 (by omega) _ ?_
          rw [if_neg (by rw [h4, Bool.and_false]; exact Bool.false_ne_true)] at hn
          rw [hn]
          omega
        · refine next2 (by omega) _ ?_
          rw [if_neg (by rw [show ((atP (mps (atC s i)) 6).1 == t) = false from h3]; exact Bool.false_ne_true)] at hn
          rw [hn]
          omega
      · show evP E113 G113 _ (lp113 6) (si113 x s d p b f n t m i 7) (rkn113 _ _ 3 N 6 _)
        have hn := refP_next (preP s i 7) (atP (mps (atC s i)) 7) t
        rw [← pre_next s i (j := 7) (by omega)] at hn
        rw [bi113_7, Int.toNat_natCast, wrap_id (n := m + 1) (by omega) (by omega)]
        refine br_yes ⟨by omega, h2⟩ (br_intro (fun h3 => br_intro (fun h4 => ?_) (fun h4 => ?_)) (fun h3 => ?_))
        · refine next2 (by omega) _ ?_
          rw [if_pos (by rw [show ((atP (mps (atC s i)) 7).1 == t) = true from h3, h4]; rfl)] at hn
          rw [hn]
          omega
        · refine next2 (by omega) _ ?_
          rw [if_neg (by rw [h4, Bool.and_false]; exact Bool.false_ne_true)] at hn
          rw [hn]
          omega
        · refine next2 (by omega) _ ?_
          rw [if_neg (by rw [show ((atP (mps (atC s i)) 7).1 == t) = false from h3]; exact Bool.false_ne_true)] at hn
          rw [hn]
          omega
      · show evP E113 G113 _ (lp113 6) (si113 x s d p b f n t m i 8) (rkn113 _ _ 3 N 6 _)
        rw [bi113_8, wrap_id (n := (i : Int) + 1) (by omega) (by omega)]
        exact next (by omega) _ (by rw [hm, pre_end (by omega)])
    · show _ = _
      have e : i = s.length := by omega
      rw [hm, e, pre_all]
  · exact h.elim
noncomputable def E56 : Env := Ef.of Tryd.f56
noncomputable def G56 : Gk := gk [(113, g113)]
noncomputable def lp56 (n : Nat) : Code := (loopOf n (codeOf Tryd.f56)).getD .skip
noncomputable def ct56 (L : Lp) (R : Option Res → Prop) (n : Nat) : Kt := contOf E56 G56 L n (codeOf Tryd.f56) (endK E56 Tryd.f56.results.toList R)
noncomputable def rk56 (L : Lp) (R : Option Res → Prop) (n : Nat) (N : St → Prop) : Kt := rk (jof E56 (lp56 n)) N (ct56 L R n)
noncomputable def rkn56 (L : Lp) (R : Option Res → Prop) (n : Nat) (N : St → Prop) (m : Nat) (N2 : St → Prop) : Kt := rk (jof E56 (lp56 m)) N2 (contOf E56 G56 L m (lp56 n) (rk56 L R n N))
noncomputable def LOOPN56 (L : Lp) (R : Option Res → Prop) (n : Nat) (N : St → Prop) (m : Nat) (st : St) : Prop := L (lp56 m) st (contOf E56 G56 L m (lp56 n) (rk56 L R n N))
noncomputable def LOOP56 (L : Lp) (R : Option Res → Prop) (n : Nat) (st : St) : Prop := L (lp56 n) st (ct56 L R n)
theorem hg56 : HG Tryd.prog G56 := (hg_cons h113 hg_nil)
theorem okf56 : Ok Tryd.prog E56 := okf.of Tryd.f56
theorem e56 (L : Lp) (R : Option Res → Prop) (x : Int) (s : List (Elem kc)) (d p : List (Elem k3)) (b : Bool) (f : List (Elem ki)) (n : Int) : (bodyP Ef G56 L Tryd.f56 [coreAV x s d p b f n] [] R) = (
    LOOP56 L R 3 { tm := [vJ, AV.ptr 0 0, vJ, vI 0, vI 0, vJ, vJ, vJ, vJ, vJ, vJ, vJ, vJ, vJ, vJ, vJ, vJ, vJ, vJ, vJ, vJ, vJ, vJ, vJ, vJ, vJ, vJ, vJ, vJ, vJ, vJ, vJ, vJ, vJ, vJ, vJ, vJ, vJ, vJ, vJ, vJ, vJ, vJ, vJ, vJ, vJ, vJ, vJ, vJ, vJ, vJ, vJ, vJ, vJ, vJ, vJ, vJ, vJ, vJ, vJ, vJ, vJ], ob := [(0, AO.box [vI x, AV.rsl kc s, AV.rsl k3 d, AV.rsl k3 p, vB b, AV.rsl ki f, vI n])], nx := 1000000, ps := [] }) := by kernel_rfl
def st56 (x : Int) (s : List (Elem kc)) (d p : List (Elem k3)) (b : Bool) (f : List (Elem ki)) (n : Int) (m i : Int) : St :=  ⟨[vJ, AV.ptr 0 0, vJ, .val (.int .i64 m), .val (.int .i64 i), vJ, vJ, vJ, vJ, vJ, vJ, vJ, vJ, vJ, vJ, vJ, vJ, vJ, vJ, vJ, vJ, vJ, vJ, vJ, vJ, vJ, vJ, vJ, vJ, vJ, vJ, vJ, vJ, vJ, vJ, vJ, vJ, vJ, vJ, vJ, vJ, vJ, vJ, vJ, vJ, vJ, vJ, vJ, vJ, vJ, vJ, vJ, vJ, vJ, vJ, vJ, vJ, vJ, vJ, vJ, vJ, vJ], [(0, AO.box [vI x, AV.rsl kc s, AV.rsl k3 d, AV.rsl k3 p, vB b, AV.rsl ki f, vI n])], 1000000, []⟩
theorem b56 (L : Lp) (R : Option Res → Prop) (N : St → Prop) (x : Int) (s : List (Elem kc)) (d p : List (Elem k3)) (b : Bool) (f : List (Elem ki)) (n : Int) (m i : Int) : (evP E56 G56 L (lp56 3) (st56 x s d p b f n m i) (rk56 L R 3 N)) = (
    br (decide (i < (↑d.length : Int))) (br (decide (0 ≤ i ∧ i < (↑d.length : Int))) (br (smCo (x, s, d, p, b, f, n)) (br (decide (0 ≤ i ∧ i < (↑d.length : Int))) (br ((↑(refP (ptsOf (x, s, d, p, b, f, n).snd.fst) (d.getD i.toNat (edflt k3)).snd.fst) : Int) != (d.getD i.toNat (edflt k3)).snd.snd.fst) (R (some { av := vB false, obs := [], outs := [] })) (br (decide (0 ≤ i ∧ i < (↑d.length : Int))) (N { tm := [vJ, AV.ptr 0 0, vJ, vI (IntKind.i64.wrap (m + (d.getD i.toNat (edflt k3)).snd.snd.fst)), vI (IntKind.i64.wrap (i + 1)), vJ, vJ, vJ, vJ, vJ, vJ, vJ, vJ, vJ, vJ, vJ, vJ, vJ, vJ, vJ, vJ, vJ, vJ, vJ, vJ, vJ, vJ, vJ, vJ, vJ, vJ, vJ, vJ, vJ, vJ, vJ, vJ, vJ, vJ, vJ, vJ, vJ, vJ, vJ, vJ, vJ, vJ, vJ, vJ, vJ, vJ, vJ, vJ, vJ, vJ, vJ, vJ, vJ, vJ, vJ, vJ, vJ], ob := [(0, AO.box [vI x, AV.rsl kc s, AV.rsl k3 d, AV.rsl k3 p, vB b, AV.rsl ki f, vI n])], nx := 1000000, ps := [] }) False)) False) False) False) (LOOP56 L R 9 { tm := [vJ, AV.ptr 0 0, vJ, vI m, vJ, vI 0, vJ, vJ, vJ, vJ, vJ, vJ, vJ, vJ, vJ, vJ, vJ, vJ, vJ, vJ, vJ, vJ, vJ, vJ, vJ, vJ, vJ, vJ, vJ, vJ, vJ, vJ, vJ, vJ, vJ, vJ, vJ, vJ, vJ, vJ, vJ, vJ, vJ, vJ, vJ, vJ, vJ, vJ, vJ, vJ, vJ, vJ, vJ, vJ, vJ, vJ, vJ, vJ, vJ, vJ, vJ, vJ], ob := [(0, AO.box [vI x, AV.rsl kc s, AV.rsl k3 d, AV.rsl k3 p, vB b, AV.rsl ki f, vI n])], nx := 1000000, ps := [] })) := by kernel_rfl
def so56 (x : Int) (s : List (Elem kc)) (d p : List (Elem k3)) (b : Bool) (f : List (Elem ki)) (n : Int) (m i : Int) : St :=  ⟨[vJ, AV.ptr 0 0, vJ, .val (.int .i64 m), vJ, .val (.int .i64 i), vJ, vJ, vJ, vJ, vJ, vJ, vJ, vJ, vJ, vJ, vJ, vJ, vJ, vJ, vJ, vJ, vJ, vJ, vJ, vJ, vJ, vJ, vJ, vJ, vJ, vJ, vJ, vJ, vJ, vJ, vJ, vJ, vJ, vJ, vJ, vJ, vJ, vJ, vJ, vJ, vJ, vJ, vJ, vJ, vJ, vJ, vJ, vJ, vJ, vJ, vJ, vJ, vJ, vJ, vJ, vJ], [(0, AO.box [vI x, AV.rsl kc s, AV.rsl k3 d, AV.rsl k3 p, vB b, AV.rsl ki f, vI n])], 1000000, []⟩
theorem bo56 (L : Lp) (R : Option Res → Prop) (N : St → Prop) (x : Int) (s : List (Elem kc)) (d p : List (Elem k3)) (b : Bool) (f : List (Elem ki)) (n : Int) (m i : Int) : (evP E56 G56 L (lp56 9) (so56 x s d p b f n m i) (rk56 L R 9 N)) = (
    br (decide (i < (↑s.length : Int))) (LOOPN56 L R 9 N 12 { tm := [vJ, AV.ptr 0 0, vJ, vI m, vJ, vI i, vI 0, vJ, vJ, vJ, vJ, vJ, vJ, vJ, vJ, vJ, vJ, vJ, vJ, vJ, vJ, vJ, vJ, vJ, vJ, vJ, vJ, vJ, vJ, vJ, vJ, vJ, vJ, vJ, vJ, vJ, vJ, vJ, vJ, vJ, vJ, vJ, vJ, vJ, vJ, vJ, vJ, vJ, vJ, vJ, vJ, vJ, vJ, vJ, vJ, vJ, vJ, vJ, vJ, vJ, vJ, vJ], ob := [(0, AO.box [vI x, AV.rsl kc s, AV.rsl k3 d, AV.rsl k3 p, vB b, AV.rsl ki f, vI n])], nx := 1000000, ps := [] }) (R (some { av := vB (m == 0), obs := [], outs := [] }))) := by kernel_rfl
def si56 (x : Int) (s : List (Elem kc)) (d p : List (Elem k3)) (b : Bool) (f : List (Elem ki)) (n : Int) (m i j : Int) : St :=  ⟨[vJ, AV.ptr 0 0, vJ, .val (.int .i64 m), vJ, .val (.int .i64 i), .val (.int .i64 j), vJ, vJ, vJ, vJ, vJ, vJ, vJ, vJ, vJ, vJ, vJ, vJ, vJ, vJ, vJ, vJ, vJ, vJ, vJ, vJ, vJ, vJ, vJ, vJ, vJ, vJ, vJ, vJ, vJ, vJ, vJ, vJ, vJ, vJ, vJ, vJ, vJ, vJ, vJ, vJ, vJ, vJ, vJ, vJ, vJ, vJ, vJ, vJ, vJ, vJ, vJ, vJ, vJ, vJ, vJ], [(0, AO.box [vI x, AV.rsl kc s, AV.rsl k3 d, AV.rsl k3 p, vB b, AV.rsl ki f, vI n])], 1000000, []⟩
theorem bi56_0 (L : Lp) (R : Option Res → Prop) (N N2 : St → Prop) (x : Int) (s : List (Elem kc)) (d p : List (Elem k3)) (b : Bool) (f : List (Elem ki)) (n : Int) (m q : Int) : (evP E56 G56 L (lp56 12) (si56 x s d p b f n m q 0) (rkn56 L R 9 N 12 N2)) = (
    br (decide (0 ≤ q ∧ q < (↑s.length : Int))) (br (decide ((s.getD q.toNat (edflt kc)).snd.snd.snd.fst > 0)) (N2 { tm := [vJ, AV.ptr 0 0, vJ, vI (IntKind.i64.wrap (m - 1)), vJ, vI q, vI 1, vJ, vJ, vJ, vJ, vJ, vJ, vJ, vJ, vJ, vJ, vJ, vJ, vJ, vJ, vJ, vJ, vJ, vJ, vJ, vJ, vJ, vJ, vJ, vJ, vJ, vJ, vJ, vJ, vJ, vJ, vJ, vJ, vJ, vJ, vJ, vJ, vJ, vJ, vJ, vJ, vJ, vJ, vJ, vJ, vJ, vJ, vJ, vJ, vJ, vJ, vJ, vJ, vJ, vJ, vJ], ob := [(0, AO.box [vI x, AV.rsl kc s, AV.rsl k3 d, AV.rsl k3 p, vB b, AV.rsl ki f, vI n])], nx := 1000000, ps := [] }) (N2 { tm := [vJ, AV.ptr 0 0, vJ, vI m, vJ, vI q, vI 1, vJ, vJ, vJ, vJ, vJ, vJ, vJ, vJ, vJ, vJ, vJ, vJ, vJ, vJ, vJ, vJ, vJ, vJ, vJ, vJ, vJ, vJ, vJ, vJ, vJ, vJ, vJ, vJ, vJ, vJ, vJ, vJ, vJ, vJ, vJ, vJ, vJ, vJ, vJ, vJ, vJ, vJ, vJ, vJ, vJ, vJ, vJ, vJ, vJ, vJ, vJ, vJ, vJ, vJ, vJ], ob := [(0, AO.box [vI x, AV.rsl kc s, AV.rsl k3 d, AV.rsl k3 p, vB b, AV.rsl ki f, vI n])], nx := 1000000, ps := [] })) False) := by kernel_rfl
theorem bi56_1 (L : Lp) (R : Option Res → Prop) (N N2 : St → Prop) (x : Int) (s : List (Elem kc)) (d p : List (Elem k3)) (b : Bool) (f : List (Elem ki)) (n : Int) (m q : Int) : (evP E56 G56 L (lp56 12) (si56 x s d p b f n m q 1) (rkn56 L R 9 N 12 N2)) = (
    br (decide (0 ≤ q ∧ q < (↑s.length : Int))) (br (decide ((s.getD q.toNat (edflt kc)).snd.snd.snd.snd.snd.snd.fst > 0)) (N2 { tm := [vJ, AV.ptr 0 0, vJ, vI (IntKind.i64.wrap (m - 1)), vJ, vI q, vI 2, vJ, vJ, vJ, vJ, vJ, vJ, vJ, vJ, vJ, vJ, vJ, vJ, vJ, vJ, vJ, vJ, vJ, vJ, vJ, vJ, vJ, vJ, vJ, vJ, vJ, vJ, vJ, vJ, vJ, vJ, vJ, vJ, vJ, vJ, vJ, vJ, vJ, vJ, vJ, vJ, vJ, vJ, vJ, vJ, vJ, vJ, vJ, vJ, vJ, vJ, vJ, vJ, vJ, vJ, vJ], ob := [(0, AO.box [vI x, AV.rsl kc s, AV.rsl k3 d, AV.rsl k3 p, vB b, AV.rsl ki f, vI n])], nx := 1000000, ps := [] }) (N2 { tm := [vJ, AV.ptr 0 0, vJ, vI m, vJ, vI q, vI 2, vJ, vJ, vJ, vJ, vJ, vJ, vJ, vJ, vJ, vJ, vJ, vJ, vJ, vJ, vJ, vJ, vJ, vJ, vJ, vJ, vJ, vJ, vJ, vJ, vJ, vJ, vJ, vJ, vJ, vJ, vJ, vJ, vJ, vJ, vJ, vJ, vJ, vJ, vJ, vJ, vJ, vJ, vJ, vJ, vJ, vJ, vJ, vJ, vJ, vJ, vJ, vJ, vJ, vJ, vJ], ob := [(0, AO.box [vI x, AV.rsl kc s, AV.rsl k3 d, AV.rsl k3 p, vB b, AV.rsl ki f, vI n])], nx := 1000000, ps := [] })) False) := by kernel_rfl
theorem bi56_2 (L : Lp) (R : Option Res → Prop) (N N2 : St → Prop) (x : Int) (s : List (Elem kc)) (d p : List (Elem k3)) (b : Bool) (f : List (Elem ki)) (n : Int) (m q : Int) : (evP E56 G56 L (lp56 12) (si56 x s d p b f n m q 2) (rkn56 L R 9 N 12 N2)) = (
    br (decide (0 ≤ q ∧ q < (↑s.length : Int))) (br (decide ((s.getD q.toNat (edflt kc)).snd.snd.snd.snd.snd.snd.snd.snd.snd.fst > 0)) (N2 { tm := [vJ, AV.ptr 0 0, vJ, vI (IntKind.i64.wrap (m - 1)), vJ, vI q, vI 3, vJ, vJ, vJ, vJ, vJ, vJ, vJ, vJ, vJ, vJ, vJ, vJ, vJ, vJ, vJ, vJ, vJ, vJ, vJ, vJ, vJ, vJ, vJ, vJ, vJ, vJ, vJ, vJ, vJ, vJ, vJ, vJ, vJ, vJ, vJ, vJ, vJ, vJ, vJ, vJ, vJ, vJ, vJ, vJ, vJ, vJ, vJ, vJ, vJ, vJ, vJ, vJ, vJ, vJ, vJ], ob := [(0, AO.box [vI x, AV.rsl kc s, AV.rsl k3 d, AV.rsl k3 p, vB b, AV.rsl ki f, vI n])], nx := 1000000, ps := [] }) (N2 { tm := [vJ, AV.ptr 0 0, vJ, vI m, vJ, vI q, vI 3, vJ, vJ, vJ, vJ, vJ, vJ, vJ, vJ, vJ, vJ, vJ, vJ, vJ, vJ, vJ, vJ, vJ, vJ, vJ, vJ, vJ, vJ, vJ, vJ, vJ, vJ, vJ, vJ, vJ, vJ, vJ, vJ, vJ, vJ, vJ, vJ, vJ, vJ, vJ, vJ, vJ, vJ, vJ, vJ, vJ, vJ, vJ, vJ, vJ, vJ, vJ, vJ, vJ, vJ, vJ], ob := [(0, AO.box [vI x, AV.rsl kc s, AV.rsl k3 d, AV.rsl k3 p, vB b, AV.rsl ki f, vI n])], nx := 1000000, ps := [] })) False) := by kernel_rfl
theorem bi56_3 (L : Lp) (R : Option Res → Prop) (N N2 : St → Prop) (x : Int) (s : List (Elem kc)) (d p : List (Elem k3)) (b : Bool) (f : List (Elem ki)) (n : Int) (m q : Int) : (evP E56 G56 L (lp56 12) (si56 x s d p b f n m q 3) (rkn56 L R 9 N 12 N2)) = (
    br (decide (0 ≤ q ∧ q < (↑s.length : Int))) (br (decide ((s.getD q.toNat (edflt kc)).snd.snd.snd.snd.snd.snd.snd.snd.snd.snd.snd.snd.fst > 0)) (N2 { tm := [vJ, AV.ptr 0 0, vJ, vI (IntKind.i64.wrap (m - 1)), vJ, vI q, vI 4, vJ, vJ, vJ, vJ, vJ, vJ, vJ, vJ, vJ, vJ, vJ, vJ, vJ, vJ, vJ, vJ, vJ, vJ, vJ, vJ, vJ, vJ, vJ, vJ, vJ, vJ, vJ, vJ, vJ, vJ, vJ, vJ, vJ, vJ, vJ, vJ, vJ, vJ, vJ, vJ, vJ, vJ, vJ, vJ, vJ, vJ, vJ, vJ, vJ, vJ, vJ, vJ, vJ, vJ, vJ], ob := [(0, AO.box [vI x, AV.rsl kc s, AV.rsl k3 d, AV.rsl k3 p, vB b, AV.rsl ki f, vI n])], nx := 1000000, ps := [] }) (N2 { tm := [vJ, AV.ptr 0 0, vJ, vI m, vJ, vI q, vI 4, vJ, vJ, vJ, vJ, vJ, vJ, vJ, vJ, vJ, vJ, vJ, vJ, vJ, vJ, vJ, vJ, vJ, vJ, vJ, vJ, vJ, vJ, vJ, vJ, vJ, vJ, vJ, vJ, vJ, vJ, vJ, vJ, vJ, vJ, vJ, vJ, vJ, vJ, vJ, vJ, vJ, vJ, vJ, vJ, vJ, vJ, vJ, vJ, vJ, vJ, vJ, vJ, vJ, vJ, vJ], ob := [(0, AO.box [vI x, AV.rsl kc s, AV.rsl k3 d, AV.rsl k3 p, vB b, AV.rsl ki f, vI n])], nx := 1000000, ps := [] })) False) := by kernel_rfl
theorem bi56_4 (L : Lp) (R : Option Res → Prop) (N N2 : St → Prop) (x : Int) (s : List (Elem kc)) (d p : List (Elem k3)) (b : Bool) (f : List (Elem ki)) (n : Int) (m q : Int) : (evP E56 G56 L (lp56 12) (si56 x s d p b f n m q 4) (rkn56 L R 9 N 12 N2)) = (
    br (decide (0 ≤ q ∧ q < (↑s.length : Int))) (br (decide ((s.getD q.toNat (edflt kc)).snd.snd.snd.snd.snd.snd.snd.snd.snd.snd.snd.snd.snd.snd.snd.fst > 0)) (N2 { tm := [vJ, AV.ptr 0 0, vJ, vI (IntKind.i64.wrap (m - 1)), vJ, vI q, vI 5, vJ, vJ, vJ, vJ, vJ, vJ, vJ, vJ, vJ, vJ, vJ, vJ, vJ, vJ, vJ, vJ, vJ, vJ, vJ, vJ, vJ, vJ, vJ, vJ, vJ, vJ, vJ, vJ, vJ, vJ, vJ, vJ, vJ, vJ, vJ, vJ, vJ, vJ, vJ, vJ, vJ, vJ, vJ, vJ, vJ, vJ, vJ, vJ, vJ, vJ, vJ, vJ, vJ, vJ, vJ], ob := [(0, AO.box [vI x, AV.rsl kc s, AV.rsl k3 d, AV.rsl k3 p, vB b, AV.rsl ki f, vI n])], nx := 1000000, ps := [] }) (N2 { tm := [vJ, AV.ptr 0 0, vJ, vI m, vJ, vI q, vI 5, vJ, vJ, vJ, vJ, vJ, vJ, vJ, vJ, vJ, vJ, vJ, vJ, vJ, vJ, vJ, vJ, vJ, vJ, vJ, vJ, vJ, vJ, vJ, vJ, vJ, vJ, vJ, vJ, vJ, vJ, vJ, vJ, vJ, vJ, vJ, vJ, vJ, vJ, vJ, vJ, vJ, vJ, vJ, vJ, vJ, vJ, vJ, vJ, vJ, vJ, vJ, vJ, vJ, vJ, vJ], ob := [(0, AO.box [vI x, AV.rsl kc s, AV.rsl k3 d, AV.rsl k3 p, vB b, AV.rsl ki f, vI n])], nx := 1000000, ps := [] })) False) := by kernel_rfl
theorem bi56_5 (L : Lp) (R : Option Res → Prop) (N N2 : St → Prop) (x : Int) (s : List (Elem kc)) (d p : List (Elem k3)) (b : Bool) (f : List (Elem ki)) (n : Int) (m q : Int) : (evP E56 G56 L (lp56 12) (si56 x s d p b f n m q 5) (rkn56 L R 9 N 12 N2)) = (
    br (decide (0 ≤ q ∧ q < (↑s.length : Int))) (br (decide ((s.getD q.toNat (edflt kc)).snd.snd.snd.snd.snd.snd.snd.snd.snd.snd.snd.snd.snd.snd.snd.snd.snd.snd.fst > 0)) (N2 { tm := [vJ, AV.ptr 0 0, vJ, vI (IntKind.i64.wrap (m - 1)), vJ, vI q, vI 6, vJ, vJ, vJ, vJ, vJ, vJ, vJ, vJ, vJ, vJ, vJ, vJ, vJ, vJ, vJ, vJ, vJ, vJ, vJ, vJ, vJ, vJ, vJ, vJ, vJ, vJ, vJ, vJ, vJ, vJ, vJ, vJ, vJ, vJ, vJ, vJ, vJ, vJ, vJ, vJ, vJ, vJ, vJ, vJ, vJ, vJ, vJ, vJ, vJ, vJ, vJ, vJ, vJ, vJ, vJ], ob := [(0, AO.box [vI x, AV.rsl kc s, AV.rsl k3 d, AV.rsl k3 p, vB b, AV.rsl ki f, vI n])], nx := 1000000, ps := [] }) (N2 { tm := [vJ, AV.ptr 0 0, vJ, vI m, vJ, vI q, vI 6, vJ, vJ, vJ, vJ, vJ, vJ, vJ, vJ, vJ, vJ, vJ, vJ, vJ, vJ, vJ, vJ, vJ, vJ, vJ, vJ, vJ, vJ, vJ, vJ, vJ, vJ, vJ, vJ, vJ, vJ, vJ, vJ, vJ, vJ, vJ, vJ, vJ, vJ, vJ, vJ, vJ, vJ, vJ, vJ, vJ, vJ, vJ, vJ, vJ, vJ, vJ, vJ, vJ, vJ, vJ], ob := [(0, AO.box [vI x, AV.rsl kc s, AV.rsl k3 d, AV.rsl k3 p, vB b, AV.rsl ki f, vI n])], nx := 1000000, ps := [] })) False) := by kernel_rfl
theorem bi56_6 (L : Lp) (R : Option Res → Prop) (N N2 : St → Prop) (x : Int) (s : List (Elem kc)) (d p : List (Elem k3)) (b : Bool) (f : List (Elem ki)) (n : Int) (m q : Int) : (evP E56 G56 L (lp56 12) (si56 x s d p b f n m q 6) (rkn56 L R 9 N 12 N2)) = (
    br (decide (0 ≤ q ∧ q < (↑s.length : Int))) (br (decide ((s.getD q.toNat (edflt kc)).snd.snd.snd.snd.snd.snd.snd.snd.snd.snd.snd.snd.snd.snd.snd.snd.snd.snd.snd.snd.snd.fst > 0)) (N2 { tm := [vJ, AV.ptr 0 0, vJ, vI (IntKind.i64.wrap (m - 1)), vJ, vI q, vI 7, vJ, vJ, vJ, vJ, vJ, vJ, vJ, vJ, vJ, vJ, vJ, vJ, vJ, vJ, vJ, vJ, vJ, vJ, vJ, vJ, vJ, vJ, vJ, vJ, vJ, vJ, vJ, vJ, vJ, vJ, vJ, vJ, vJ, vJ, vJ, vJ, vJ, vJ, vJ, vJ, vJ, vJ, vJ, vJ, vJ, vJ, vJ, vJ, vJ, vJ, vJ, vJ, vJ, vJ, vJ], ob := [(0, AO.box [vI x, AV.rsl kc s, AV.rsl k3 d, AV.rsl k3 p, vB b, AV.rsl ki f, vI n])], nx := 1000000, ps := [] }) (N2 { tm := [vJ, AV.ptr 0 0, vJ, vI m, vJ, vI q, vI 7, vJ, vJ, vJ, vJ, vJ, vJ, vJ, vJ, vJ, vJ, vJ, vJ, vJ, vJ, vJ, vJ, vJ, vJ, vJ, vJ, vJ, vJ, vJ, vJ, vJ, vJ, vJ, vJ, vJ, vJ, vJ, vJ, vJ, vJ, vJ, vJ, vJ, vJ, vJ, vJ, vJ, vJ, vJ, vJ, vJ, vJ, vJ, vJ, vJ, vJ, vJ, vJ, vJ, vJ, vJ], ob := [(0, AO.box [vI x, AV.rsl kc s, AV.rsl k3 d, AV.rsl k3 p, vB b, AV.rsl ki f, vI n])], nx := 1000000, ps := [] })) False) := by kernel_rfl
theorem bi56_7 (L : Lp) (R : Option Res → Prop) (N N2 : St → Prop) (x : Int) (s : List (Elem kc)) (d p : List (Elem k3)) (b : Bool) (f : List (Elem ki)) (n : Int) (m q : Int) : (evP E56 G56 L (lp56 12) (si56 x s d p b f n m q 7) (rkn56 L R 9 N 12 N2)) = (
    br (decide (0 ≤ q ∧ q < (↑s.length : Int))) (br (decide ((s.getD q.toNat (edflt kc)).snd.snd.snd.snd.snd.snd.snd.snd.snd.snd.snd.snd.snd.snd.snd.snd.snd.snd.snd.snd.snd.snd.snd.snd.fst > 0)) (N2 { tm := [vJ, AV.ptr 0 0, vJ, vI (IntKind.i64.wrap (m - 1)), vJ, vI q, vI 8, vJ, vJ, vJ, vJ, vJ, vJ, vJ, vJ, vJ, vJ, vJ, vJ, vJ, vJ, vJ, vJ, vJ, vJ, vJ, vJ, vJ, vJ, vJ, vJ, vJ, vJ, vJ, vJ, vJ, vJ, vJ, vJ, vJ, vJ, vJ, vJ, vJ, vJ, vJ, vJ, vJ, vJ, vJ, vJ, vJ, vJ, vJ, vJ, vJ, vJ, vJ, vJ, vJ, vJ, vJ], ob := [(0, AO.box [vI x, AV.rsl kc s, AV.rsl k3 d, AV.rsl k3 p, vB b, AV.rsl ki f, vI n])], nx := 1000000, ps := [] }) (N2 { tm := [vJ, AV.ptr 0 0, vJ, vI m, vJ, vI q, vI 8, vJ, vJ, vJ, vJ, vJ, vJ, vJ, vJ, vJ, vJ, vJ, vJ, vJ, vJ, vJ, vJ, vJ, vJ, vJ, vJ, vJ, vJ, vJ, vJ, vJ, vJ, vJ, vJ, vJ, vJ, vJ, vJ, vJ, vJ, vJ, vJ, vJ, vJ, vJ, vJ, vJ, vJ, vJ, vJ, vJ, vJ, vJ, vJ, vJ, vJ, vJ, vJ, vJ, vJ, vJ], ob := [(0, AO.box [vI x, AV.rsl kc s, AV.rsl k3 d, AV.rsl k3 p, vB b, AV.rsl ki f, vI n])], nx := 1000000, ps := [] })) False) := by kernel_rfl
theorem bi56_8 (L : Lp) (R : Option Res → Prop) (N N2 : St → Prop) (x : Int) (s : List (Elem kc)) (d p : List (Elem k3)) (b : Bool) (f : List (Elem ki)) (n : Int) (m q : Int) : (evP E56 G56 L (lp56 12) (si56 x s d p b f n m q 8) (rkn56 L R 9 N 12 N2)) = (
    N { tm := [vJ, AV.ptr 0 0, vJ, vI m, vJ, vI (IntKind.i64.wrap (q + 1)), vJ, vJ, vJ, vJ, vJ, vJ, vJ, vJ, vJ, vJ, vJ, vJ, vJ, vJ, vJ, vJ, vJ, vJ, vJ, vJ, vJ, vJ, vJ, vJ, vJ, vJ, vJ, vJ, vJ, vJ, vJ, vJ, vJ, vJ, vJ, vJ, vJ, vJ, vJ, vJ, vJ, vJ, vJ, vJ, vJ, vJ, vJ, vJ, vJ, vJ, vJ, vJ, vJ, vJ, vJ, vJ], ob := [(0, AO.box [vI x, AV.rsl kc s, AV.rsl k3 d, AV.rsl k3 p, vB b, AV.rsl ki f, vI n])], nx := 1000000, ps := [] }) := by kernel_rfl
noncomputable def E57 : Env := Ef.of Tryd.f57
noncomputable def G57 : Gk := gk [(114, g114)]
noncomputable def lp57 (n : Nat) : Code := (loopOf n (codeOf Tryd.f57)).getD .skip
noncomputable def ct57 (L : Lp) (R : Option Res → Prop) (n : Nat) : Kt := contOf E57 G57 L n (codeOf Tryd.f57) (endK E57 Tryd.f57.results.toList R)
noncomputable def rk57 (L : Lp) (R : Option Res → Prop) (n : Nat) (N : St → Prop) : Kt := rk (jof E57 (lp57 n)) N (ct57 L R n)
noncomputable def rkn57 (L : Lp) (R : Option Res → Prop) (n : Nat) (N : St → Prop) (m : Nat) (N2 : St → Prop) : Kt := rk (jof E57 (lp57 m)) N2 (contOf E57 G57 L m (lp57 n) (rk57 L R n N))
noncomputable def LOOPN57 (L : Lp) (R : Option Res → Prop) (n : Nat) (N : St → Prop) (m : Nat) (st : St) : Prop := L (lp57 m) st (contOf E57 G57 L m (lp57 n) (rk57 L R n N))
noncomputable def LOOP57 (L : Lp) (R : Option Res → Prop) (n : Nat) (st : St) : Prop := L (lp57 n) st (ct57 L R n)
theorem hg57 : HG Tryd.prog G57 := (hg_cons h114 hg_nil)
theorem okf57 : Ok Tryd.prog E57 := okf.of Tryd.f57
theorem e57 (L : Lp) (R : Option Res → Prop) (x : Int) (s : List (Elem kc)) (d p : List (Elem k3)) (b : Bool) (f : List (Elem ki)) (n : Int) : (bodyP Ef G57 L Tryd.f57 [coreAV x s d p b f n] [] R) = (
    LOOP57 L R 2 { tm := [vJ, AV.ptr 0 0, vJ, vI 0, vJ, vJ, vJ, vJ, vJ, vJ, vJ, vJ, vJ, vJ, vJ, vJ, vJ, vJ, vJ, vJ, vJ, vJ, vJ, vJ, vJ, vJ, vJ, vJ, vJ, vJ, vJ, vJ, vJ, vJ, vJ, vJ, vJ, vJ, vJ, vJ, vJ, vJ, vJ, vJ, vJ, vJ, vJ, vJ, vJ, vJ, vJ, vJ, vJ], ob := [(0, AO.box [vI x, AV.rsl kc s, AV.rsl k3 d, AV.rsl k3 p, vB b, AV.rsl ki f, vI n])], nx := 1000000, ps := [] }) := by kernel_rfl
def st57 (x : Int) (s : List (Elem kc)) (d p : List (Elem k3)) (b : Bool) (f : List (Elem ki)) (n : Int) (i : Int) : St :=  ⟨[vJ, AV.ptr 0 0, vJ, .val (.int .i64 i), vJ, vJ, vJ, vJ, vJ, vJ, vJ, vJ, vJ, vJ, vJ, vJ, vJ, vJ, vJ, vJ, vJ, vJ, vJ, vJ, vJ, vJ, vJ, vJ, vJ, vJ, vJ, vJ, vJ, vJ, vJ, vJ, vJ, vJ, vJ, vJ, vJ, vJ, vJ, vJ, vJ, vJ, vJ, vJ, vJ, vJ, vJ, vJ, vJ], [(0, AO.box [vI x, AV.rsl kc s, AV.rsl k3 d, AV.rsl k3 p, vB b, AV.rsl ki f, vI n])], 1000000, []⟩
theorem b57 (L : Lp) (R : Option Res → Prop) (N : St → Prop) (x : Int) (s : List (Elem kc)) (d p : List (Elem k3)) (b : Bool) (f : List (Elem ki)) (n : Int) (i : Int) : (evP E57 G57 L (lp57 2) (st57 x s d p b f n i) (rk57 L R 2 N)) = (
    br (decide (i < (↑s.length : Int))) (LOOPN57 L R 2 N 5 { tm := [vJ, AV.ptr 0 0, vJ, vI i, vI 0, vJ, vJ, vJ, vJ, vJ, vJ, vJ, vJ, vJ, vJ, vJ, vJ, vJ, vJ, vJ, vJ, vJ, vJ, vJ, vJ, vJ, vJ, vJ, vJ, vJ, vJ, vJ, vJ, vJ, vJ, vJ, vJ, vJ, vJ, vJ, vJ, vJ, vJ, vJ, vJ, vJ, vJ, vJ, vJ, vJ, vJ, vJ, vJ], ob := [(0, AO.box [vI x, AV.rsl kc s, AV.rsl k3 d, AV.rsl k3 p, vB b, AV.rsl ki f, vI n])], nx := 1000000, ps := [] }) (R (some { av := vB true, obs := [], outs := [] }))) := by kernel_rfl
def si57 (x : Int) (s : List (Elem kc)) (d p : List (Elem k3)) (b : Bool) (f : List (Elem ki)) (n : Int) (i j : Int) : St :=  ⟨[vJ, AV.ptr 0 0, vJ, .val (.int .i64 i), .val (.int .i64 j), vJ, vJ, vJ, vJ, vJ, vJ, vJ, vJ, vJ, vJ, vJ, vJ, vJ, vJ, vJ, vJ, vJ, vJ, vJ, vJ, vJ, vJ, vJ, vJ, vJ, vJ, vJ, vJ, vJ, vJ, vJ, vJ, vJ, vJ, vJ, vJ, vJ, vJ, vJ, vJ, vJ, vJ, vJ, vJ, vJ, vJ, vJ, vJ], [(0, AO.box [vI x, AV.rsl kc s, AV.rsl k3 d, AV.rsl k3 p, vB b, AV.rsl ki f, vI n])], 1000000, []⟩
theorem bi57_0 (L : Lp) (R : Option Res → Prop) (N N2 : St → Prop) (x : Int) (s : List (Elem kc)) (d p : List (Elem k3)) (b : Bool) (f : List (Elem ki)) (n : Int) (q : Int) : (evP E57 G57 L (lp57 5) (si57 x s d p b f n q 0) (rkn57 L R 2 N 5 N2)) = (
    br (decide (0 ≤ q ∧ q < (↑s.length : Int))) (br (decide (d.length ≤ 1048576)) (br (decide ((s.getD q.toNat (edflt kc)).snd.snd.snd.fst > 0)) (br (!okD d (s.getD q.toNat (edflt kc)).snd.snd.snd.fst) (R (some { av := vB false, obs := [], outs := [] })) (br (decide (0 ≤ (↑(lnD d (s.getD q.toNat (edflt kc)).snd.snd.snd.fst) : Int) ∧ (↑(lnD d (s.getD q.toNat (edflt kc)).snd.snd.snd.fst) : Int) < (↑d.length : Int))) (br ((d.getD (↑(lnD d (s.getD q.toNat (edflt kc)).snd.snd.snd.fst) : Int).toNat (edflt k3)).fst != (s.getD q.toNat (edflt kc)).snd.snd.snd.snd.fst) (R (some { av := vB false, obs := [], outs := [] })) (N2 { tm := [vJ, AV.ptr 0 0, vJ, vI q, vI 1, vJ, vJ, vJ, vJ, vJ, vJ, vJ, vJ, vJ, vJ, vJ, vJ, vJ, vJ, vJ, vJ, vJ, vJ, vJ, vJ, vJ, vJ, vJ, vJ, vJ, vJ, vJ, vJ, vJ, vJ, vJ, vJ, vJ, vJ, vJ, vJ, vJ, vJ, vJ, vJ, vJ, vJ, vJ, vJ, vJ, vJ, vJ, vJ], ob := [(0, AO.box [vI x, AV.rsl kc s, AV.rsl k3 d, AV.rsl k3 p, vB b, AV.rsl ki f, vI n])], nx := 1000000, ps := [] })) False)) (N2 { tm := [vJ, AV.ptr 0 0, vJ, vI q, vI 1, vJ, vJ, vJ, vJ, vJ, vJ, vJ, vJ, vJ, vJ, vJ, vJ, vJ, vJ, vJ, vJ, vJ, vJ, vJ, vJ, vJ, vJ, vJ, vJ, vJ, vJ, vJ, vJ, vJ, vJ, vJ, vJ, vJ, vJ, vJ, vJ, vJ, vJ, vJ, vJ, vJ, vJ, vJ, vJ, vJ, vJ, vJ, vJ], ob := [(0, AO.box [vI x, AV.rsl kc s, AV.rsl k3 d, AV.rsl k3 p, vB b, AV.rsl ki f, vI n])], nx := 1000000, ps := [] })) False) False) := by kernel_rfl
theorem bi57_1 (L : Lp) (R : Option Res → Prop) (N N2 : St → Prop) (x : Int) (s : List (Elem kc)) (d p : List (Elem k3)) (b : Bool) (f : List (Elem ki)) (n : Int) (q : Int) : (evP E57 G57 L (lp57 5) (si57 x s d p b f n q 1) (rkn57 L R 2 N 5 N2)) = (
    br (decide (0 ≤ q ∧ q < (↑s.length : Int))) (br (decide (d.length ≤ 1048576)) (br (decide ((s.getD q.toNat (edflt kc)).snd.snd.snd.snd.snd.snd.fst > 0)) (br (!okD d (s.getD q.toNat (edflt kc)).snd.snd.snd.snd.snd.snd.fst) (R (some { av := vB false, obs := [], outs := [] })) (br (decide (0 ≤ (↑(lnD d (s.getD q.toNat (edflt kc)).snd.snd.snd.snd.snd.snd.fst) : Int) ∧ (↑(lnD d (s.getD q.toNat (edflt kc)).snd.snd.snd.snd.snd.snd.fst) : Int) < (↑d.length : Int))) (br ((d.getD (↑(lnD d (s.getD q.toNat (edflt kc)).snd.snd.snd.snd.snd.snd.fst) : Int).toNat (edflt k3)).fst != (s.getD q.toNat (edflt kc)).snd.snd.snd.snd.snd.snd.snd.fst) (R (some { av := vB false, obs := [], outs := [] })) (N2 { tm := [vJ, AV.ptr 0 0, vJ, vI q, vI 2, vJ, vJ, vJ, vJ, vJ, vJ, vJ, vJ, vJ, vJ, vJ, vJ, vJ, vJ, vJ, vJ, vJ, vJ, vJ, vJ, vJ, vJ, vJ, vJ, vJ, vJ, vJ, vJ, vJ, vJ, vJ, vJ, vJ, vJ, vJ, vJ, vJ, vJ, vJ, vJ, vJ, vJ, vJ, vJ, vJ, vJ, vJ, vJ], ob := [(0, AO.box [vI x, AV.rsl kc s, AV.rsl k3 d, AV.rsl k3 p, vB b, AV.rsl ki f, vI n])], nx := 1000000, ps := [] })) False)) (N2 { tm := [vJ, AV.ptr 0 0, vJ, vI q, vI 2, vJ, vJ, vJ, vJ, vJ, vJ, vJ, vJ, vJ, vJ, vJ, vJ, vJ, vJ, vJ, vJ, vJ, vJ, vJ, vJ, vJ, vJ, vJ, vJ, vJ, vJ, vJ, vJ, vJ, vJ, vJ, vJ, vJ, vJ, vJ, vJ, vJ, vJ, vJ, vJ, vJ, vJ, vJ, vJ, vJ, vJ, vJ, vJ], ob := [(0, AO.box [vI x, AV.rsl kc s, AV.rsl k3 d, AV.rsl k3 p, vB b, AV.rsl ki f, vI n])], nx := 1000000, ps := [] })) False) False) := by kernel_rfl
theorem bi57_2 (L : Lp) (R : Option Res → Prop) (N N2 : St → Prop) (x : Int) (s : List (Elem kc)) (d p : List (Elem k3)) (b : Bool) (f : List (Elem ki)) (n : Int) (q : Int) : (evP E57 G57 L (lp57 5) (si57 x s d p b f n q 2) (rkn57 L R 2 N 5 N2)) = (
    br (decide (0 ≤ q ∧ q < (↑s.length : Int))) (br (decide (d.length ≤ 1048576)) (br (decide ((s.getD q.toNat (edflt kc)).snd.snd.snd.snd.snd.snd.snd.snd.snd.fst > 0)) (br (!okD d (s.getD q.toNat (edflt kc)).snd.snd.snd.snd.snd.snd.snd.snd.snd.fst) (R (some { av := vB false, obs := [], outs := [] })) (br (decide (0 ≤ (↑(lnD d (s.getD q.toNat (edflt kc)).snd.snd.snd.snd.snd.snd.snd.snd.snd.fst) : Int) ∧ (↑(lnD d (s.getD q.toNat (edflt kc)).snd.snd.snd.snd.snd.snd.snd.snd.snd.fst) : Int) < (↑d.length : Int))) (br ((d.getD (↑(lnD d (s.getD q.toNat (edflt kc)).snd.snd.snd.snd.snd.snd.snd.snd.snd.fst) : Int).toNat (edflt k3)).fst != (s.getD q.toNat (edflt kc)).snd.snd.snd.snd.snd.snd.snd.snd.snd.snd.fst) (R (some { av := vB false, obs := [], outs := [] })) (N2 { tm := [vJ, AV.ptr 0 0, vJ, vI q, vI 3, vJ, vJ, vJ, vJ, vJ, vJ, vJ, vJ, vJ, vJ, vJ, vJ, vJ, vJ, vJ, vJ, vJ, vJ, vJ, vJ, vJ, vJ, vJ, vJ, vJ, vJ, vJ, vJ, vJ, vJ, vJ, vJ, vJ, vJ, vJ, vJ, vJ, vJ, vJ, vJ, vJ, vJ, vJ, vJ, vJ, vJ, vJ, vJ], ob := [(0, AO.box [vI x, AV.rsl kc s, AV.rsl k3 d, AV.rsl k3 p, vB b, AV.rsl ki f, vI n])], nx := 1000000, ps := [] })) False)) (N2 { tm := [vJ, AV.ptr 0 0, vJ, vI q, vI 3, vJ, vJ, vJ, vJ, vJ, vJ, vJ, vJ, vJ, vJ, vJ, vJ, vJ, vJ, vJ, vJ, vJ, vJ, vJ, vJ, vJ, vJ, vJ, vJ, vJ, vJ, vJ, vJ, vJ, vJ, vJ, vJ, vJ, vJ, vJ, vJ, vJ, vJ, vJ, vJ, vJ, vJ, vJ, vJ, vJ, vJ, vJ, vJ], ob := [(0, AO.box [vI x, AV.rsl kc s, AV.rsl k3 d, AV.rsl k3 p, vB b, AV.rsl ki f, vI n])], nx := 1000000, ps := [] })) False) False) := by kernel_rfl
theorem bi57_3 (L : Lp) (R : Option Res → Prop) (N N2 : St → Prop) (x : Int) (s : List (Elem kc)) (d p : List (Elem k3)) (b : Bool) (f : List (Elem ki)) (n : Int) (q : Int) : (evP E57 G57 L (lp57 5) (si57 x s d p b f n q 3) (rkn57 L R 2 N 5 N2)) = (
    br (decide (0 ≤ q ∧ q < (↑s.length : Int))) (br (decide (d.length ≤ 1048576)) (br (decide ((s.getD q.toNat (edflt kc)).snd.snd.snd.snd.snd.snd.snd.snd.snd.snd.snd.snd.fst > 0)) (br (!okD d (s.getD q.toNat (edflt kc)).snd.snd.snd.snd.snd.snd.snd.snd.snd.snd.snd.snd.fst) (R (some { av := vB false, obs := [], outs := [] })) (br (decide (0 ≤ (↑(lnD d (s.getD q.toNat (edflt kc)).snd.snd.snd.snd.snd.snd.snd.snd.snd.snd.snd.snd.fst) : Int) ∧ (↑(lnD d (s.getD q.toNat (edflt kc)).snd.snd.snd.snd.snd.snd.snd.snd.snd.snd.snd.snd.fst) : Int) < (↑d.length : Int))) (br ((d.getD (↑(lnD d (s.getD q.toNat (edflt kc)).snd.snd.snd.snd.snd.snd.snd.snd.snd.snd.snd.snd.fst) : Int).toNat (edflt k3)).fst != (s.getD q.toNat (edflt kc)).snd.snd.snd.snd.snd.snd.snd.snd.snd.snd.snd.snd.snd.fst) (R (some { av := vB false, obs := [], outs := [] })) (N2 { tm := [vJ, AV.ptr 0 0, vJ, vI q, vI 4, vJ, vJ, vJ, vJ, vJ, vJ, vJ, vJ, vJ, vJ, vJ, vJ, vJ, vJ, vJ, vJ, vJ, vJ, vJ, vJ, vJ, vJ, vJ, vJ, vJ, vJ, vJ, vJ, vJ, vJ, vJ, vJ, vJ, vJ, vJ, vJ, vJ, vJ, vJ, vJ, vJ, vJ, vJ, vJ, vJ, vJ, vJ, vJ], ob := [(0, AO.box [vI x, AV.rsl kc s, AV.rsl k3 d, AV.rsl k3 p, vB b, AV.rsl ki f, vI n])], nx := 1000000, ps := [] })) False)) (N2 { tm := [vJ, AV.ptr 0 0, vJ, vI q, vI 4, vJ, vJ, vJ, vJ, vJ, vJ, vJ, vJ, vJ, vJ, vJ, vJ, vJ, vJ, vJ, vJ, vJ, vJ, vJ, vJ, vJ, vJ, vJ, vJ, vJ, vJ, vJ, vJ, vJ, vJ, vJ, vJ, vJ, vJ, vJ, vJ, vJ, vJ, vJ, vJ, vJ, vJ, vJ, vJ, vJ, vJ, vJ, vJ], ob := [(0, AO.box [vI x, AV.rsl kc s, AV.rsl k3 d, AV.rsl k3 p, vB b, AV.rsl ki f, vI n])], nx := 1000000, ps := [] })) False) False) := by kernel_rfl
theorem bi57_4 (L : Lp) (R : Option Res → Prop) (N N2 : St → Prop) (x : Int) (s : List (Elem kc)) (d p : List (Elem k3)) (b : Bool) (f : List (Elem ki)) (n : Int) (q : Int) : (evP E57 G57 L (lp57 5) (si57 x s d p b f n q 4) (rkn57 L R 2 N 5 N2)) = (
    br (decide (0 ≤ q ∧ q < (↑s.length : Int))) (br (decide (d.length ≤ 1048576)) (br (decide ((s.getD q.toNat (edflt kc)).snd.snd.snd.snd.snd.snd.snd.snd.snd.snd.snd.snd.snd.snd.snd.fst > 0)) (br (!okD d (s.getD q.toNat (edflt kc)).snd.snd.snd.snd.snd.snd.snd.snd.snd.snd.snd.snd.snd.snd.snd.fst) (R (some { av := vB false, obs := [], outs := [] })) (br (decide (0 ≤ (↑(lnD d (s.getD q.toNat (edflt kc)).snd.snd.snd.snd.snd.snd.snd.snd.snd.snd.snd.snd.snd.snd.snd.fst) : Int) ∧ (↑(lnD d (s.getD q.toNat (edflt kc)).snd.snd.snd.snd.snd.snd.snd.snd.snd.snd.snd.snd.snd.snd.snd.fst) : Int) < (↑d.length : Int))) (br ((d.getD (↑(lnD d (s.getD q.toNat (edflt kc)).snd.snd.snd.snd.snd.snd.snd.snd.snd.snd.snd.snd.snd.snd.snd.fst) : Int).toNat (edflt k3)).fst != (s.getD q.toNat (edflt kc)).snd.snd.snd.snd.snd.snd.snd.snd.snd.snd.snd.snd.snd.snd.snd.snd.fst) (R (some { av := vB false, obs := [], outs := [] })) (N2 { tm := [vJ, AV.ptr 0 0, vJ, vI q, vI 5, vJ, vJ, vJ, vJ, vJ, vJ, vJ, vJ, vJ, vJ, vJ, vJ, vJ, vJ, vJ, vJ, vJ, vJ, vJ, vJ, vJ, vJ, vJ, vJ, vJ, vJ, vJ, vJ, vJ, vJ, vJ, vJ, vJ, vJ, vJ, vJ, vJ, vJ, vJ, vJ, vJ, vJ, vJ, vJ, vJ, vJ, vJ, vJ], ob := [(0, AO.box [vI x, AV.rsl kc s, AV.rsl k3 d, AV.rsl k3 p, vB b, AV.rsl ki f, vI n])], nx := 1000000, ps := [] })) False)) (N2 { tm := [vJ, AV.ptr 0 0, vJ, vI q, vI 5, vJ, vJ, vJ, vJ, vJ, vJ, vJ, vJ, vJ, vJ, vJ, vJ, vJ, vJ, vJ, vJ, vJ, vJ, vJ, vJ, vJ, vJ, vJ, vJ, vJ, vJ, vJ, vJ, vJ, vJ, vJ, vJ, vJ, vJ, vJ, vJ, vJ, vJ, vJ, vJ, vJ, vJ, vJ, vJ, vJ, vJ, vJ, vJ], ob := [(0, AO.box [vI x, AV.rsl kc s, AV.rsl k3 d, AV.rsl k3 p, vB b, AV.rsl ki f, vI n])], nx := 1000000, ps := [] })) False) False) := by kernel_rfl
theorem bi57_5 (L : Lp) (R : Option Res → Prop) (N N2 : St → Prop) (x : Int) (s : List (Elem kc)) (d p : List (Elem k3)) (b : Bool) (f : List (Elem ki)) (n : Int) (q : Int) : (evP E57 G57 L (lp57 5) (si57 x s d p b f n q 5) (rkn57 L R 2 N 5 N2)) = (
    br (decide (0 ≤ q ∧ q < (↑s.length : Int))) (br (decide (d.length ≤ 1048576)) (br (decide ((s.getD q.toNat (edflt kc)).snd.snd.snd.snd.snd.snd.snd.snd.snd.snd.snd.snd.snd.snd.snd.snd.snd.snd.fst > 0)) (br (!okD d (s.getD q.toNat (edflt kc)).snd.snd.snd.snd.snd.snd.snd.snd.snd.snd.snd.snd.snd.snd.snd.snd.snd.snd.fst) (R (some { av := vB false, obs := [], outs := [] })) (br (decide (0 ≤ (↑(lnD d (s.getD q.toNat (edflt kc)).snd.snd.snd.snd.snd.snd.snd.snd.snd.snd.snd.snd.snd.snd.snd.snd.snd.snd.fst) : Int) ∧ (↑(lnD d (s.getD q.toNat (edflt kc)).snd.snd.snd.snd.snd.snd.snd.snd.snd.snd.snd.snd.snd.snd.snd.snd.snd.snd.fst) : Int) < (↑d.length : Int))) (br ((d.getD (↑(lnD d (s.getD q.toNat (edflt kc)).snd.snd.snd.snd.snd.snd.snd.snd.snd.snd.snd.snd.snd.snd.snd.snd.snd.snd.fst) : Int).toNat (edflt k3)).fst != (s.getD q.toNat (edflt kc)).snd.snd.snd.snd.snd.snd.snd.snd.snd.snd.snd.snd.snd.snd.snd.snd.snd.snd.snd.fst) (R (some { av := vB false, obs := [], outs := [] })) (N2 { tm := [vJ, AV.ptr 0 0, vJ, vI q, vI 6, vJ, vJ, vJ, vJ, vJ, vJ, vJ, vJ, vJ, vJ, vJ, vJ, vJ, vJ, vJ, vJ, vJ, vJ, vJ, vJ, vJ, vJ, vJ, vJ, vJ, vJ, vJ, vJ, vJ, vJ, vJ, vJ, vJ, vJ, vJ, vJ, vJ, vJ, vJ, vJ, vJ, vJ, vJ, vJ, vJ, vJ, vJ, vJ], ob := [(0, AO.box [vI x, AV.rsl kc s, AV.rsl k3 d, AV.rsl k3 p, vB b, AV.rsl ki f, vI n])], nx := 1000000, ps := [] })) False)) (N2 { tm := [vJ, AV.ptr 0 0, vJ, vI q, vI 6, vJ, vJ, vJ, vJ, vJ, vJ, vJ, vJ, vJ, vJ, vJ, vJ, vJ, vJ, vJ, vJ, vJ, vJ, vJ, vJ, vJ, vJ, vJ, vJ, vJ, vJ, vJ, vJ, vJ, vJ, vJ, vJ, vJ, vJ, vJ, vJ, vJ, vJ, vJ, vJ, vJ, vJ, vJ, vJ, vJ, vJ, vJ, vJ], ob := [(0, AO.box [vI x, AV.rsl kc s, AV.rsl k3 d, AV.rsl k3 p, vB b, AV.rsl ki f, vI n])], nx := 1000000, ps := [] })) False) False) := by kernel_rfl
theorem bi57_6 (L : Lp) (R : Option Res → Prop) (N N2 : St → Prop) (x : Int) (s : List (Elem kc)) (d p : List (Elem k3)) (b : Bool) (f : List (Elem ki)) (n : Int) (q : Int) : (evP E57 G57 L (lp57 5) (si57 x s d p b f n q 6) (rkn57 L R 2 N 5 N2)) = (
    br (decide (0 ≤ q ∧ q < (↑s.length : Int))) (br (decide (d.length ≤ 1048576)) (br (decide ((s.getD q.toNat (edflt kc)).snd.snd.snd.snd.snd.snd.snd.snd.snd.snd.snd.snd.snd.snd.snd.snd.snd.snd.snd.snd.snd.fst > 0)) (br (!okD d (s.getD q.toNat (edflt kc)).snd.snd.snd.snd.snd.snd.snd.snd.snd.snd.snd.snd.snd.snd.snd.snd.snd.snd.snd.snd.snd.fst) (R (some { av := vB false, obs := [], outs := [] })) (br (decide (0 ≤ (↑(lnD d (s.getD q.toNat (edflt kc)).snd.snd.snd.snd.snd.snd.snd.snd.snd.snd.snd.snd.snd.snd.snd.snd.snd.snd.snd.snd.snd.fst) : Int) ∧ (↑(lnD d (s.getD q.toNat (edflt kc)).snd.snd.snd.snd.snd.snd.snd.snd.snd.snd.snd.snd.snd.snd.snd.snd.snd.snd.snd.snd.snd.fst) : Int) < (↑d.length : Int))) (br ((d.getD (↑(lnD d (s.getD q.toNat (edflt kc)).snd.snd.snd.snd.snd.snd.snd.snd.snd.snd.snd.snd.snd.snd.snd.snd.snd.snd.snd.snd.snd.fst) : Int).toNat (edflt k3)).fst != (s.getD q.toNat (edflt kc)).snd.snd.snd.snd.snd.snd.snd.snd.snd.snd.snd.snd.snd.snd.snd.snd.snd.snd.snd.snd.snd.snd.fst) (R (some { av := vB false, obs := [], outs := [] })) (N2 { tm := [vJ, AV.ptr 0 0, vJ, vI q, vI 7, vJ, vJ, vJ, vJ, vJ, vJ, vJ, vJ, vJ, vJ, vJ, vJ, vJ, vJ, vJ, vJ, vJ, vJ, vJ, vJ, vJ, vJ, vJ, vJ, vJ, vJ, vJ, vJ, vJ, vJ, vJ, vJ, vJ, vJ, vJ, vJ, vJ, vJ, vJ, vJ, vJ, vJ, vJ, vJ, vJ, vJ, vJ, vJ], ob := [(0, AO.box [vI x, AV.rsl kc s, AV.rsl k3 d, AV.rsl k3 p, vB b, AV.rsl ki f, vI n])], nx := 1000000, ps := [] })) False)) (N2 { tm := [vJ, AV.ptr 0 0, vJ, vI q, vI 7, vJ, vJ, vJ, vJ, vJ, vJ, vJ, vJ, vJ, vJ, vJ, vJ, vJ, vJ, vJ, vJ, vJ, vJ, vJ, vJ, vJ, vJ, vJ, vJ, vJ, vJ, vJ, vJ, vJ, vJ, vJ, vJ, vJ, vJ, vJ, vJ, vJ, vJ, vJ, vJ, vJ, vJ, vJ, vJ, vJ, vJ, vJ, vJ], ob := [(0, AO.box [vI x, AV.rsl kc s, AV.rsl k3 d, AV.rsl k3 p, vB b, AV.rsl ki f, vI n])], nx := 1000000, ps := [] })) False) False) := by kernel_rfl
theorem bi57_7 (L : Lp) (R : Option Res → Prop) (N N2 : St → Prop) (x : Int) (s : List (Elem kc)) (d p : List (Elem k3)) (b : Bool) (f : List (Elem ki)) (n : Int) (q : Int) : (evP E57 G57 L (lp57 5) (si57 x s d p b f n q 7) (rkn57 L R 2 N 5 N2)) = (
    br (decide (0 ≤ q ∧ q < (↑s.length : Int))) (br (decide (d.length ≤ 1048576)) (br (decide ((s.getD q.toNat (edflt kc)).snd.snd.snd.snd.snd.snd.snd.snd.snd.snd.snd.snd.snd.snd.snd.snd.snd.snd.snd.snd.snd.snd.snd.snd.fst > 0)) (br (!okD d (s.getD q.toNat (edflt kc)).snd.snd.snd.snd.snd.snd.snd.snd.snd.snd.snd.snd.snd.snd.snd.snd.snd.snd.snd.snd.snd.snd.snd.snd.fst) (R (some { av := vB false, obs := [], outs := [] })) (br (decide (0 ≤ (↑(lnD d (s.getD q.toNat (edflt kc)).snd.snd.snd.snd.snd.snd.snd.snd.snd.snd.snd.snd.snd.snd.snd.snd.snd.snd.snd.snd.snd.snd.snd.snd.fst) : Int) ∧ (↑(lnD d (s.getD q.toNat (edflt kc)).snd.snd.snd.snd.snd.snd.snd.snd.snd.snd.snd.snd.snd.snd.snd.snd.snd.snd.snd.snd.snd.snd.snd.snd.fst) : Int) < (↑d.length : Int))) (br ((d.getD (↑(lnD d (s.getD q.toNat (edflt kc)).snd.snd.snd.snd.snd.snd.snd.snd.snd.snd.snd.snd.snd.snd.snd.snd.snd.snd.snd.snd.snd.snd.snd.snd.fst) : Int).toNat (edflt k3)).fst != (s.getD q.toNat (edflt kc)).snd.snd.snd.snd.snd.snd.snd.snd.snd.snd.snd.snd.snd.snd.snd.snd.snd.snd.snd.snd.snd.snd.snd.snd.snd.fst) (R (some { av := vB false, obs := [], outs := [] })) (N2 { tm := [vJ, AV.ptr 0 0, vJ, vI q, vI 8, vJ, vJ, vJ, vJ, vJ, vJ, vJ, vJ, vJ, vJ, vJ, vJ, vJ, vJ, vJ, vJ, vJ, vJ, vJ, vJ, vJ, vJ, vJ, vJ, vJ, vJ, vJ, vJ, vJ, vJ, vJ, vJ, vJ, vJ, vJ, vJ, vJ, vJ, vJ, vJ, vJ, vJ, vJ, vJ, vJ, vJ, vJ, vJ], ob := [(0, AO.box [vI x, AV.rsl kc s, AV.rsl k3 d, AV.rsl k3 p, vB b, AV.rsl ki f, vI n])], nx := 1000000, ps := [] })) False)) (N2 { tm := [vJ, AV.ptr 0 0, vJ, vI q, vI 8, vJ, vJ, vJ, vJ, vJ, vJ, vJ, vJ, vJ, vJ, vJ, vJ, vJ, vJ, vJ, vJ, vJ, vJ, vJ, vJ, vJ, vJ, vJ, vJ, vJ, vJ, vJ, vJ, vJ, vJ, vJ, vJ, vJ, vJ, vJ, vJ, vJ, vJ, vJ, vJ, vJ, vJ, vJ, vJ, vJ, vJ, vJ, vJ], ob := [(0, AO.box [vI x, AV.rsl kc s, AV.rsl k3 d, AV.rsl k3 p, vB b, AV.rsl ki f, vI n])], nx := 1000000, ps := [] })) False) False) := by kernel_rfl
theorem bi57_8 (L : Lp) (R : Option Res → Prop) (N N2 : St → Prop) (x : Int) (s : List (Elem kc)) (d p : List (Elem k3)) (b : Bool) (f : List (Elem ki)) (n : Int) (q : Int) : (evP E57 G57 L (lp57 5) (si57 x s d p b f n q 8) (rkn57 L R 2 N 5 N2)) = (
    N { tm := [vJ, AV.ptr 0 0, vJ, vI (IntKind.i64.wrap (q + 1)), vJ, vJ, vJ, vJ, vJ, vJ, vJ, vJ, vJ, vJ, vJ, vJ, vJ, vJ, vJ, vJ, vJ, vJ, vJ, vJ, vJ, vJ, vJ, vJ, vJ, vJ, vJ, vJ, vJ, vJ, vJ, vJ, vJ, vJ, vJ, vJ, vJ, vJ, vJ, vJ, vJ, vJ, vJ, vJ, vJ, vJ, vJ, vJ, vJ], ob := [(0, AO.box [vI x, AV.rsl kc s, AV.rsl k3 d, AV.rsl k3 p, vB b, AV.rsl ki f, vI n])], nx := 1000000, ps := [] }) := by kernel_rfl
noncomputable def E72 : Env := Ef.of Tryd.f72
noncomputable def G72 : Gk := gk [(129, g129)]
noncomputable def lp72 (n : Nat) : Code := (loopOf n (codeOf Tryd.f72)).getD .skip
noncomputable def ct72 (L : Lp) (R : Option Res → Prop) (n : Nat) : Kt := contOf E72 G72 L n (codeOf Tryd.f72) (endK E72 Tryd.f72.results.toList R)
noncomputable def rk72 (L : Lp) (R : Option Res → Prop) (n : Nat) (N : St → Prop) : Kt := rk (jof E72 (lp72 n)) N (ct72 L R n)
noncomputable def rkn72 (L : Lp) (R : Option Res → Prop) (n : Nat) (N : St → Prop) (m : Nat) (N2 : St → Prop) : Kt := rk (jof E72 (lp72 m)) N2 (contOf E72 G72 L m (lp72 n) (rk72 L R n N))
noncomputable def LOOPN72 (L : Lp) (R : Option Res → Prop) (n : Nat) (N : St → Prop) (m : Nat) (st : St) : Prop := L (lp72 m) st (contOf E72 G72 L m (lp72 n) (rk72 L R n N))
noncomputable def LOOP72 (L : Lp) (R : Option Res → Prop) (n : Nat) (st : St) : Prop := L (lp72 n) st (ct72 L R n)
theorem hg72 : HG Tryd.prog G72 := (hg_cons h129 hg_nil)
theorem okf72 : Ok Tryd.prog E72 := okf.of Tryd.f72
theorem e72 (L : Lp) (R : Option Res → Prop) (x : Int) (s : List (Elem kc)) (d p : List (Elem k3)) (b : Bool) (f : List (Elem ki)) (n : Int) : (bodyP Ef G72 L Tryd.f72 [coreAV x s d p b f n] [] R) = (
    br (decide (0 ≤ (↑d.length : Int) ∧ (↑d.length : Int) ≤ (↑d.length : Int) ∧ 8 * (↑d.length : Int) ≤ 281474976710656)) (LOOP72 L R 3 { tm := [vJ, AV.ptr 0 0, vJ, AV.ows 1, vJ, vJ, vJ, vJ, vJ, vJ, vJ, vJ, vJ, vJ, vJ, vJ, vJ, AV.rsl kc s, vI (↑s.length : Int), vI 0, vJ, vJ, vJ, vJ, vJ, vJ, vJ, vJ, vJ, vJ, vJ, vJ, vJ, vJ, vJ, vJ, vJ, vJ, vJ, vJ, vJ, vJ, vJ, vJ, vJ, vJ, vJ, vJ, vJ, vJ, vJ, vJ, vJ, vJ, vJ, vJ, vJ, vJ, vJ, vJ, vJ, vJ, vJ, vJ, vJ, vJ, vJ, vJ, vJ, vJ, vJ, vJ, vJ, vJ, vJ, vJ], ob := [(0, AO.box [vI x, AV.rsl kc s, AV.rsl k3 d, AV.rsl k3 p, vB b, AV.rsl ki f, vI n]), (1, AO.row ki (List.replicate (↑d.length : Int).toNat (edflt ki)))], nx := 1000000, ps := [] }) False) := by kernel_rfl
def st72 (x : Int) (s : List (Elem kc)) (d p : List (Elem k3)) (b : Bool) (f : List (Elem ki)) (n : Int) (i : Int) (cs : List (Elem ki)) : St :=  ⟨[vJ, AV.ptr 0 0, vJ, AV.ows 1, vJ, vJ, vJ, vJ, vJ, vJ, vJ, vJ, vJ, vJ, vJ, vJ, vJ, AV.rsl kc s, vI (↑s.length : Int), .val (.int .i64 i), vJ, vJ, vJ, vJ, vJ, vJ, vJ, vJ, vJ, vJ, vJ, vJ, vJ, vJ, vJ, vJ, vJ, vJ, vJ, vJ, vJ, vJ, vJ, vJ, vJ, vJ, vJ, vJ, vJ, vJ, vJ, vJ, vJ, vJ, vJ, vJ, vJ, vJ, vJ, vJ, vJ, vJ, vJ, vJ, vJ, vJ, vJ, vJ, vJ, vJ, vJ, vJ, vJ, vJ, vJ, vJ], [(0, AO.box [vI x, AV.rsl kc s, AV.rsl k3 d, AV.rsl k3 p, vB b, AV.rsl ki f, vI n]), (1, .row ki cs)], 1000000, []⟩
theorem b72 (L : Lp) (R : Option Res → Prop) (N : St → Prop) (x : Int) (s : List (Elem kc)) (d p : List (Elem k3)) (b : Bool) (f : List (Elem ki)) (n : Int) (i : Int) (cs : List (Elem ki)) : (evP E72 G72 L (lp72 3) (st72 x s d p b f n i cs) (rk72 L R 3 N)) = (
    br (decide (i < (↑s.length : Int))) (br (decide (0 ≤ i ∧ i < (↑s.length : Int))) (LOOPN72 L R 3 N 6 { tm := [vJ, AV.ptr 0 0, vJ, AV.ows 1, vJ, vJ, vJ, vJ, vJ, vJ, vJ, vJ, vJ, vJ, vJ, vJ, vJ, AV.rsl kc s, vI (↑s.length : Int), vI i, vJ, vJ, vJ, vJ, AV.agg (mapK (s.getD i.toNat (edflt kc))), vI 0, vJ, vJ, vJ, vJ, vJ, vJ, vJ, vJ, vJ, vJ, vJ, vJ, vJ, vJ, vJ, vJ, vJ, vJ, vJ, vJ, vJ, vJ, vJ, vJ, vJ, vJ, vJ, vJ, vJ, vJ, vJ, vJ, vJ, vJ, vJ, vJ, vJ, vJ, vJ, vJ, vJ, vJ, vJ, vJ, vJ, vJ, vJ, vJ, vJ, vJ], ob := [(0, AO.box [vI x, AV.rsl kc s, AV.rsl k3 d, AV.rsl k3 p, vB b, AV.rsl ki f, vI n]), (1, AO.row ki cs)], nx := 1000000, ps := [] }) False) (LOOP72 L R 16 { tm := [vJ, vJ, vJ, AV.ows 0, vJ, vJ, vJ, vJ, vJ, vJ, vJ, vJ, vJ, vJ, vJ, vJ, vJ, vJ, vJ, vJ, vJ, vJ, vJ, vJ, vJ, vJ, vJ, vJ, vJ, vJ, vJ, vJ, vJ, vJ, vJ, vJ, vJ, vJ, vJ, vJ, vJ, vJ, vJ, vJ, vJ, vJ, vJ, vJ, vJ, vJ, vJ, vJ, vJ, vJ, vJ, vJ, vJ, vJ, vJ, vJ, vJ, AV.rsl k3 d, vI (↑d.length : Int), vI 0, vJ, vJ, vJ, vJ, vJ, vJ, vJ, vJ, vJ, vJ, vJ, vJ], ob := [(0, AO.row ki cs)], nx := 1000000, ps := [] })) := by kernel_rfl
def si72 (x : Int) (s : List (Elem kc)) (d p : List (Elem k3)) (b : Bool) (f : List (Elem ki)) (n : Int) (i j : Int) (e : Elem kc) (cs : List (Elem ki)) : St :=  ⟨[vJ, AV.ptr 0 0, vJ, AV.ows 1, vJ, vJ, vJ, vJ, vJ, vJ, vJ, vJ, vJ, vJ, vJ, vJ, vJ, AV.rsl kc s, vI (↑s.length : Int), .val (.int .i64 i), vJ, vJ, vJ, vJ, .agg (mapK e), .val (.int .i64 j), vJ, vJ, vJ, vJ, vJ, vJ, vJ, vJ, vJ, vJ, vJ, vJ, vJ, vJ, vJ, vJ, vJ, vJ, vJ, vJ, vJ, vJ, vJ, vJ, vJ, vJ, vJ, vJ, vJ, vJ, vJ, vJ, vJ, vJ, vJ, vJ, vJ, vJ, vJ, vJ, vJ, vJ, vJ, vJ, vJ, vJ, vJ, vJ, vJ, vJ], [(0, AO.box [vI x, AV.rsl kc s, AV.rsl k3 d, AV.rsl k3 p, vB b, AV.rsl ki f, vI n]), (1, .row ki cs)], 1000000, []⟩
theorem bi72_0 (L : Lp) (R : Option Res → Prop) (N N2 : St → Prop) (x : Int) (s : List (Elem kc)) (d p : List (Elem k3)) (b : Bool) (f : List (Elem ki)) (n : Int) (q : Int) (e : Elem kc) (cs : List (Elem ki)) : (evP E72 G72 L (lp72 6) (si72 x s d p b f n q 0 e cs) (rkn72 L R 3 N 6 N2)) = (
    br (e.snd.snd.snd.fst == 0) (N2 { tm := [vJ, AV.ptr 0 0, vJ, AV.ows 1, vJ, vJ, vJ, vJ, vJ, vJ, vJ, vJ, vJ, vJ, vJ, vJ, vJ, AV.rsl kc s, vI (↑s.length : Int), vI q, vJ, vJ, vJ, vJ, AV.agg (mapK e), vI 1, vJ, vJ, vJ, vJ, vJ, vJ, vJ, vJ, vJ, vJ, vJ, vJ, vJ, vJ, vJ, vJ, vJ, vJ, vJ, vJ, vJ, vJ, vJ, vJ, vJ, vJ, vJ, vJ, vJ, vJ, vJ, vJ, vJ, vJ, vJ, vJ, vJ, vJ, vJ, vJ, vJ, vJ, vJ, vJ, vJ, vJ, vJ, vJ, vJ, vJ], ob := [(0, AO.box [vI x, AV.rsl kc s, AV.rsl k3 d, AV.rsl k3 p, vB b, AV.rsl ki f, vI n]), (1, AO.row ki cs)], nx := 1000000, ps := [] }) (br (decide (d.length ≤ 1048576)) (br (!bkD d e.snd.snd.snd.fst) (R (some { av := vB false, obs := [], outs := [] })) (br (decide (0 ≤ (↑(bsD d e.snd.snd.snd.fst) : Int) ∧ (↑(bsD d e.snd.snd.snd.fst) : Int) < (↑d.length : Int))) (br ((d.getD (↑(bsD d e.snd.snd.snd.fst) : Int).toNat (edflt k3)).fst != e.snd.snd.snd.snd.fst) (R (some { av := vB false, obs := [], outs := [] })) (br (decide (0 ≤ (↑(bsD d e.snd.snd.snd.fst) : Int) ∧ (↑(bsD d e.snd.snd.snd.fst) : Int) < (↑cs.length : Int))) (br (decide (0 ≤ (↑(bsD d e.snd.snd.snd.fst) : Int) ∧ (↑(bsD d e.snd.snd.snd.fst) : Int) < (↑cs.length : Int))) (N2 { tm := [vJ, AV.ptr 0 0, vJ, AV.ows 1, vJ, vJ, vJ, vJ, vJ, vJ, vJ, vJ, vJ, vJ, vJ, vJ, vJ, AV.rsl kc s, vI (↑s.length : Int), vI q, vJ, vJ, vJ, vJ, AV.agg (mapK e), vI 1, vJ, vJ, vJ, vJ, vJ, vJ, vJ, vJ, vJ, vJ, vJ, vJ, vJ, vJ, vJ, vJ, vJ, vJ, vJ, vJ, vJ, vJ, vJ, vJ, vJ, vJ, vJ, vJ, vJ, vJ, vJ, vJ, vJ, vJ, vJ, vJ, vJ, vJ, vJ, vJ, vJ, vJ, vJ, vJ, vJ, vJ, vJ, vJ, vJ, vJ], ob := [(0, AO.box [vI x, AV.rsl kc s, AV.rsl k3 d, AV.rsl k3 p, vB b, AV.rsl ki f, vI n]), (1, AO.row ki (cs.set (↑(bsD d e.snd.snd.snd.fst) : Int).toNat (IntKind.i64.wrap ((cs.getD (↑(bsD d e.snd.snd.snd.fst) : Int).toNat (edflt ki)).fst + 1), ())))], nx := 1000000, ps := [] }) False) False)) False)) False)) := by kernel_rfl
theorem bi72_1 (L : Lp) (R : Option Res → Prop) (N N2 : St → Prop) (x : Int) (s : List (Elem kc)) (d p : List (Elem k3)) (b : Bool) (f : List (Elem ki)) (n : Int) (q : Int) (e : Elem kc) (cs : List (Elem ki)) : (evP E72 G72 L (lp72 6) (si72 x s d p b f n q 1 e cs) (rkn72 L R 3 N 6 N2)) = (
    br (e.snd.snd.snd.snd.snd.snd.fst == 0) (N2 { tm := [vJ, AV.ptr 0 0, vJ, AV.ows 1, vJ, vJ, vJ, vJ, vJ, vJ, vJ, vJ, vJ, vJ, vJ, vJ, vJ, AV.rsl kc s, vI (↑s.length : Int), vI q, vJ, vJ, vJ, vJ, AV.agg (mapK e), vI 2, vJ, vJ, vJ, vJ, vJ, vJ, vJ, vJ, vJ, vJ, vJ, vJ, vJ, vJ, vJ, vJ, vJ, vJ, vJ, vJ, vJ, vJ, vJ, vJ, vJ, vJ, vJ, vJ, vJ, vJ, vJ, vJ, vJ, vJ, vJ, vJ, vJ, vJ, vJ, vJ, vJ, vJ, vJ, vJ, vJ, vJ, vJ, vJ, vJ, vJ], ob := [(0, AO.box [vI x, AV.rsl kc s, AV.rsl k3 d, AV.rsl k3 p, vB b, AV.rsl ki f, vI n]), (1, AO.row ki cs)], nx := 1000000, ps := [] }) (br (decide (d.length ≤ 1048576)) (br (!bkD d e.snd.snd.snd.snd.snd.snd.fst) (R (some { av := vB false, obs := [], outs := [] })) (br (decide (0 ≤ (↑(bsD d e.snd.snd.snd.snd.snd.snd.fst) : Int) ∧ (↑(bsD d e.snd.snd.snd.snd.snd.snd.fst) : Int) < (↑d.length : Int))) (br ((d.getD (↑(bsD d e.snd.snd.snd.snd.snd.snd.fst) : Int).toNat (edflt k3)).fst != e.snd.snd.snd.snd.snd.snd.snd.fst) (R (some { av := vB false, obs := [], outs := [] })) (br (decide (0 ≤ (↑(bsD d e.snd.snd.snd.snd.snd.snd.fst) : Int) ∧ (↑(bsD d e.snd.snd.snd.snd.snd.snd.fst) : Int) < (↑cs.length : Int))) (br (decide (0 ≤ (↑(bsD d e.snd.snd.snd.snd.snd.snd.fst) : Int) ∧ (↑(bsD d e.snd.snd.snd.snd.snd.snd.fst) : Int) < (↑cs.length : Int))) (N2 { tm := [vJ, AV.ptr 0 0, vJ, AV.ows 1, vJ, vJ, vJ, vJ, vJ, vJ, vJ, vJ, vJ, vJ, vJ, vJ, vJ, AV.rsl kc s, vI (↑s.length : Int), vI q, vJ, vJ, vJ, vJ, AV.agg (mapK e), vI 2, vJ, vJ, vJ, vJ, vJ, vJ, vJ, vJ, vJ, vJ, vJ, vJ, vJ, vJ, vJ, vJ, vJ, vJ, vJ, vJ, vJ, vJ, vJ, vJ, vJ, vJ, vJ, vJ, vJ, vJ, vJ, vJ, vJ, vJ, vJ, vJ, vJ, vJ, vJ, vJ, vJ, vJ, vJ, vJ, vJ, vJ, vJ, vJ, vJ, vJ], ob := [(0, AO.box [vI x, AV.rsl kc s, AV.rsl k3 d, AV.rsl k3 p, vB b, AV.rsl ki f, vI n]), (1, AO.row ki (cs.set (↑(bsD d e.snd.snd.snd.snd.snd.snd.fst) : Int).toNat (IntKind.i64.wrap ((cs.getD (↑(bsD d e.snd.snd.snd.snd.snd.snd.fst) : Int).toNat (edflt ki)).fst + 1), ())))], nx := 1000000, ps := [] }) False) False)) False)) False)) := by kernel_rfl
theorem bi72_2 (L : Lp) (R : Option Res → Prop) (N N2 : St → Prop) (x : Int) (s : List (Elem kc)) (d p : List (Elem k3)) (b : Bool) (f : List (Elem ki)) (n : Int) (q : Int) (e : Elem kc) (cs : List (Elem ki)) : (evP E72 G72 L (lp72 6) (si72 x s d p b f n q 2 e cs) (rkn72 L R 3 N 6 N2)) = (
    br (e.snd.snd.snd.snd.snd.snd.snd.snd.snd.fst == 0) (N2 { tm := [vJ, AV.ptr 0 0, vJ, AV.ows 1, vJ, vJ, vJ, vJ, vJ, vJ, vJ, vJ, vJ, vJ, vJ, vJ, vJ, AV.rsl kc s, vI (↑s.length : Int), vI q, vJ, vJ, vJ, vJ, AV.agg (mapK e), vI 3, vJ, vJ, vJ, vJ, vJ, vJ, vJ, vJ, vJ, vJ, vJ, vJ, vJ, vJ, vJ, vJ, vJ, vJ, vJ, vJ, vJ, vJ, vJ, vJ, vJ, vJ, vJ, vJ, vJ, vJ, vJ, vJ, vJ, vJ, vJ, vJ, vJ, vJ, vJ, vJ, vJ, vJ, vJ, vJ, vJ, vJ, vJ, vJ, vJ, vJ], ob := [(0, AO.box [vI x, AV.rsl kc s, AV.rsl k3 d, AV.rsl k3 p, vB b, AV.rsl ki f, vI n]), (1, AO.row ki cs)], nx := 1000000, ps := [] }) (br (decide (d.length ≤ 1048576)) (br (!bkD d e.snd.snd.snd.snd.snd.snd.snd.snd.snd.fst) (R (some { av := vB false, obs := [], outs := [] })) (br (decide (0 ≤ (↑(bsD d e.snd.snd.snd.snd.snd.snd.snd.snd.snd.fst) : Int) ∧ (↑(bsD d e.snd.snd.snd.snd.snd.snd.snd.snd.snd.fst) : Int) < (↑d.length : Int))) (br ((d.getD (↑(bsD d e.snd.snd.snd.snd.snd.snd.snd.snd.snd.fst) : Int).toNat (edflt k3)).fst != e.snd.snd.snd.snd.snd.snd.snd.snd.snd.snd.fst) (R (some { av := vB false, obs := [], outs := [] })) (br (decide (0 ≤ (↑(bsD d e.snd.snd.snd.snd.snd.snd.snd.snd.snd.fst) : Int) ∧ (↑(bsD d e.snd.snd.snd.snd.snd.snd.snd.snd.snd.fst) : Int) < (↑cs.length : Int))) (br (decide (0 ≤ (↑(bsD d e.snd.snd.snd.snd.snd.snd.snd.snd.snd.fst) : Int) ∧ (↑(bsD d e.snd.snd.snd.snd.snd.snd.snd.snd.snd.fst) : Int) < (↑cs.length : Int))) (N2 { tm := [vJ, AV.ptr 0 0, vJ, AV.ows 1, vJ, vJ, vJ, vJ, vJ, vJ, vJ, vJ, vJ, vJ, vJ, vJ, vJ, AV.rsl kc s, vI (↑s.length : Int), vI q, vJ, vJ, vJ, vJ, AV.agg (mapK e), vI 3, vJ, vJ, vJ, vJ, vJ, vJ, vJ, vJ, vJ, vJ, vJ, vJ, vJ, vJ, vJ, vJ, vJ, vJ, vJ, vJ, vJ, vJ, vJ, vJ, vJ, vJ, vJ, vJ, vJ, vJ, vJ, vJ, vJ, vJ, vJ, vJ, vJ, vJ, vJ, vJ, vJ, vJ, vJ, vJ, vJ, vJ, vJ, vJ, vJ, vJ], ob := [(0, AO.box [vI x, AV.rsl kc s, AV.rsl k3 d, AV.rsl k3 p, vB b, AV.rsl ki f, vI n]), (1, AO.row ki (cs.set (↑(bsD d e.snd.snd.snd.snd.snd.snd.snd.snd.snd.fst) : Int).toNat (IntKind.i64.wrap ((cs.getD (↑(bsD d e.snd.snd.snd.snd.snd.snd.snd.snd.snd.fst) : Int).toNat (edflt ki)).fst + 1), ())))], nx := 1000000, ps := [] }) False) False)) False)) False)) := by kernel_rfl
theorem bi72_3 (L : Lp) (R : Option Res → Prop) (N N2 : St → Prop) (x : Int) (s : List (Elem kc)) (d p : List (Elem k3)) (b : Bool) (f : List (Elem ki)) (n : Int) (q : Int) (e : Elem kc) (cs : List (Elem ki)) : (evP E72 G72 L (lp72 6) (si72 x s d p b f n q 3 e cs) (rkn72 L R 3 N 6 N2)) = (
    br (e.snd.snd.snd.snd.snd.snd.snd.snd.snd.snd.snd.snd.fst == 0) (N2 { tm := [vJ, AV.ptr 0 0, vJ, AV.ows 1, vJ, vJ, vJ, vJ, vJ, vJ, vJ, vJ, vJ, vJ, vJ, vJ, vJ, AV.rsl kc s, vI (↑s.length : Int), vI q, vJ, vJ, vJ, vJ, AV.agg (mapK e), vI 4, vJ, vJ, vJ, vJ, vJ, vJ, vJ, vJ, vJ, vJ, vJ, vJ, vJ, vJ, vJ, vJ, vJ, vJ, vJ, vJ, vJ, vJ, vJ, vJ, vJ, vJ, vJ, vJ, vJ, vJ, vJ, vJ, vJ, vJ, vJ, vJ, vJ, vJ, vJ, vJ, vJ, vJ, vJ, vJ, vJ, vJ, vJ, vJ, vJ, vJ], ob := [(0, AO.box [vI x, AV.rsl kc s, AV.rsl k3 d, AV.rsl k3 p, vB b, AV.rsl ki f, vI n]), (1, AO.row ki cs)], nx := 1000000, ps := [] }) (br (decide (d.length ≤ 1048576)) (br (!bkD d e.snd.snd.snd.snd.snd.snd.snd.snd.snd.snd.snd.snd.fst) (R (some { av := vB false, obs := [], outs := [] })) (br (decide (0 ≤ (↑(bsD d e.snd.snd.snd.snd.snd.snd.snd.snd.snd.snd.snd.snd.fst) : Int) ∧ (↑(bsD d e.snd.snd.snd.snd.snd.snd.snd.snd.snd.snd.snd.snd.fst) : Int) < (↑d.length : Int))) (br ((d.getD (↑(bsD d e.snd.snd.snd.snd.snd.snd.snd.snd.snd.snd.snd.snd.fst) : Int).toNat (edflt k3)).fst != e.snd.snd.snd.snd.snd.snd.snd.snd.snd.snd.snd.snd.snd.fst) (R (some { av := vB false, obs := [], outs := [] })) (br (decide (0 ≤ (↑(bsD d e.snd.snd.snd.snd.snd.snd.snd.snd.snd.snd.snd.snd.fst) : Int) ∧ (↑(bsD d e.snd.snd.snd.snd.snd.snd.snd.snd.snd.snd.snd.snd.fst) : Int) < (↑cs.length : Int))) (br (decide (0 ≤ (↑(bsD d e.snd.snd.snd.snd.snd.snd.snd.snd.snd.snd.snd.snd.fst) : Int) ∧ (↑(bsD d e.snd.snd.snd.snd.snd.snd.snd.snd.snd.snd.snd.snd.fst) : Int) < (↑cs.length : Int))) (N2 { tm := [vJ, AV.ptr 0 0, vJ, AV.ows 1, vJ, vJ, vJ, vJ, vJ, vJ, vJ, vJ, vJ, vJ, vJ, vJ, vJ, AV.rsl kc s, vI (↑s.length : Int), vI q, vJ, vJ, vJ, vJ, AV.agg (mapK e), vI 4, vJ, vJ, vJ, vJ, vJ, vJ, vJ, vJ, vJ, vJ, vJ, vJ, vJ, vJ, vJ, vJ, vJ, vJ, vJ, vJ, vJ, vJ, vJ, vJ, vJ, vJ, vJ, vJ, vJ, vJ, vJ, vJ, vJ, vJ, vJ, vJ, vJ, vJ, vJ, vJ, vJ, vJ, vJ, vJ, vJ, vJ, vJ, vJ, vJ, vJ], ob := [(0, AO.box [vI x, AV.rsl kc s, AV.rsl k3 d, AV.rsl k3 p, vB b, AV.rsl ki f, vI n]), (1, AO.row ki (cs.set (↑(bsD d e.snd.snd.snd.snd.snd.snd.snd.snd.snd.snd.snd.snd.fst) : Int).toNat (IntKind.i64.wrap ((cs.getD (↑(bsD d e.snd.snd.snd.snd.snd.snd.snd.snd.snd.snd.snd.snd.fst) : Int).toNat (edflt ki)).fst + 1), ())))], nx := 1000000, ps := [] }) False) False)) False)) False)) := by kernel_rfl
theorem bi72_4 (L : Lp) (R : Option Res → Prop) (N N2 : St → Prop) (x : Int) (s : List (Elem kc)) (d p : List (Elem k3)) (b : Bool) (f : List (Elem ki)) (n : Int) (q : Int) (e : Elem kc) (cs : List (Elem ki)) : (evP E72 G72 L (lp72 6) (si72 x s d p b f n q 4 e cs) (rkn72 L R 3 N 6 N2)) = (
    br (e.snd.snd.snd.snd.snd.snd.snd.snd.snd.snd.snd.snd.snd.snd.snd.fst == 0) (N2 { tm := [vJ, AV.ptr 0 0, vJ, AV.ows 1, vJ, vJ, vJ, vJ, vJ, vJ, vJ, vJ, vJ, vJ, vJ, vJ, vJ, AV.rsl kc s, vI (↑s.length : Int), vI q, vJ, vJ, vJ, vJ, AV.agg (mapK e), vI 5, vJ, vJ, vJ, vJ, vJ, vJ, vJ, vJ, vJ, vJ, vJ, vJ, vJ, vJ, vJ, vJ, vJ, vJ, vJ, vJ, vJ, vJ, vJ, vJ, vJ, vJ, vJ, vJ, vJ, vJ, vJ, vJ, vJ, vJ, vJ, vJ, vJ, vJ, vJ, vJ, vJ, vJ, vJ, vJ, vJ, vJ, vJ, vJ, vJ, vJ], ob := [(0, AO.box [vI x, AV.rsl kc s, AV.rsl k3 d, AV.rsl k3 p, vB b, AV.rsl ki f, vI n]), (1, AO.row ki cs)], nx := 1000000, ps := [] }) (br (decide (d.length ≤ 1048576)) (br (!bkD d e.snd.snd.snd.snd.snd.snd.snd.snd.snd.snd.snd.snd.snd.snd.snd.fst) (R (some { av := vB false, obs := [], outs := [] })) (br (decide (0 ≤ (↑(bsD d e.snd.snd.snd.snd.snd.snd.snd.snd.snd.snd.snd.snd.snd.snd.snd.fst) : Int) ∧ (↑(bsD d e.snd.snd.snd.snd.snd.snd.snd.snd.snd.snd.snd.snd.snd.snd.snd.fst) : Int) < (↑d.length : Int))) (br ((d.getD (↑(bsD d e.snd.snd.snd.snd.snd.snd.snd.snd.snd.snd.snd.snd.snd.snd.snd.fst) : Int).toNat (edflt k3)).fst != e.snd.snd.snd.snd.snd.snd.snd.snd.snd.snd.snd.snd.snd.snd.snd.snd.fst) (R (some { av := vB false, obs := [], outs := [] })) (br (decide (0 ≤ (↑(bsD d e.snd.snd.snd.snd.snd.snd.snd.snd.snd.snd.snd.snd.snd.snd.snd.fst) : Int) ∧ (↑(bsD d e.snd.snd.snd.snd.snd.snd.snd.snd.snd.snd.snd.snd.snd.snd.snd.fst) : Int) < (↑cs.length : Int))) (br (decide (0 ≤ (↑(bsD d e.snd.snd.snd.snd.snd.snd.snd.snd.snd.snd.snd.snd.snd.snd.snd.fst) : Int) ∧ (↑(bsD d e.snd.snd.snd.snd.snd.snd.snd.snd.snd.snd.snd.snd.snd.snd.snd.fst) : Int) < (↑cs.length : Int))) (N2 { tm := [vJ, AV.ptr 0 0, vJ, AV.ows 1, vJ, vJ, vJ, vJ, vJ, vJ, vJ, vJ, vJ, vJ, vJ, vJ, vJ, AV.rsl kc s, vI (↑s.length : Int), vI q, vJ, vJ, vJ, vJ, AV.agg (mapK e), vI 5, vJ, vJ, vJ, vJ, vJ, vJ, vJ, vJ, vJ, vJ, vJ, vJ, vJ, vJ, vJ, vJ, vJ, vJ, vJ, vJ, vJ, vJ, vJ, vJ, vJ, vJ, vJ, vJ, vJ, vJ, vJ, vJ, vJ, vJ, vJ, vJ, vJ, vJ, vJ, vJ, vJ, vJ, vJ, vJ, vJ, vJ, vJ, vJ, vJ, vJ], ob := [(0, AO.box [vI x, AV.rsl kc s, AV.rsl k3 d, AV.rsl k3 p, vB b, AV.rsl ki f, vI n]), (1, AO.row ki (cs.set (↑(bsD d e.snd.snd.snd.snd.snd.snd.snd.snd.snd.snd.snd.snd.snd.snd.snd.fst) : Int).toNat (IntKind.i64.wrap ((cs.getD (↑(bsD d e.snd.snd.snd.snd.snd.snd.snd.snd.snd.snd.snd.snd.snd.snd.snd.fst) : Int).toNat (edflt ki)).fst + 1), ())))], nx := 1000000, ps := [] }) False) False)) False)) False)) := by kernel_rfl
theorem bi72_5 (L : Lp) (R : Option Res → Prop) (N N2 : St → Prop) (x : Int) (s : List (Elem kc)) (d p : List (Elem k3)) (b : Bool) (f : List (Elem ki)) (n : Int) (q : Int) (e : Elem kc) (cs : List (Elem ki)) : (evP E72 G72 L (lp72 6) (si72 x s d p b f n q 5 e cs) (rkn72 L R 3 N 6 N2)) = (
    br (e.snd.snd.snd.snd.snd.snd.snd.snd.snd.snd.snd.snd.snd.snd.snd.snd.snd.snd.fst == 0) (N2 { tm := [vJ, AV.ptr 0 0, vJ, AV.ows 1, vJ, vJ, vJ, vJ, vJ, vJ, vJ, vJ, vJ, vJ, vJ, vJ, vJ, AV.rsl kc s, vI (↑s.length : Int), vI q, vJ, vJ, vJ, vJ, AV.agg (mapK e), vI 6, vJ, vJ, vJ, vJ, vJ, vJ, vJ, vJ, vJ, vJ, vJ, vJ, vJ, vJ, vJ, vJ, vJ, vJ, vJ, vJ, vJ, vJ, vJ, vJ, vJ, vJ, vJ, vJ, vJ, vJ, vJ, vJ, vJ, vJ, vJ, vJ, vJ, vJ, vJ, vJ, vJ, vJ, vJ, vJ, vJ, vJ, vJ, vJ, vJ, vJ], ob := [(0, AO.box [vI x, AV.rsl kc s, AV.rsl k3 d, AV.rsl k3 p, vB b, AV.rsl ki f, vI n]), (1, AO.row ki cs)], nx := 1000000, ps := [] }) (br (decide (d.length ≤ 1048576)) (br (!bkD d e.snd.snd.snd.snd.snd.snd.snd.snd.snd.snd.snd.snd.snd.snd.snd.snd.snd.snd.fst) (R (some { av := vB false, obs := [], outs := [] })) (br (decide (0 ≤ (↑(bsD d e.snd.snd.snd.snd.snd.snd.snd.snd.snd.snd.snd.snd.snd.snd.snd.snd.snd.snd.fst) : Int) ∧ (↑(bsD d e.snd.snd.snd.snd.snd.snd.snd.snd.snd.snd.snd.snd.snd.snd.snd.snd.snd.snd.fst) : Int) < (↑d.length : Int))) (br ((d.getD (↑(bsD d e.snd.snd.snd.snd.snd.snd.snd.snd.snd.snd.snd.snd.snd.snd.snd.snd.snd.snd.fst) : Int).toNat (edflt k3)).fst != e.snd.snd.snd.snd.snd.snd.snd.snd.snd.snd.snd.snd.snd.snd.snd.snd.snd.snd.snd.fst) (R (some { av := vB false, obs := [], outs := [] })) (br (decide (0 ≤ (↑(bsD d e.snd.snd.snd.snd.snd.snd.snd.snd.snd.snd.snd.snd.snd.snd.snd.snd.snd.snd.fst) : Int) ∧ (↑(bsD d e.snd.snd.snd.snd.snd.snd.snd.snd.snd.snd.snd.snd.snd.snd.snd.snd.snd.snd.fst) : Int) < (↑cs.length : Int))) (br (decide (0 ≤ (↑(bsD d e.snd.snd.snd.snd.snd.snd.snd.snd.snd.snd.snd.snd.snd.snd.snd.snd.snd.snd.fst) : Int) ∧ (↑(bsD d e.snd.snd.snd.snd.snd.snd.snd.snd.snd.snd.snd.snd.snd.snd.snd.snd.snd.snd.fst) : Int) < (↑cs.length : Int))) (N2 { tm := [vJ, AV.ptr 0 0, vJ, AV.ows 1, vJ, vJ, vJ, vJ, vJ, vJ, vJ, vJ, vJ, vJ, vJ, vJ, vJ, AV.rsl kc s, vI (↑s.length : Int), vI q, vJ, vJ, vJ, vJ, AV.agg (mapK e), vI 6, vJ, vJ, vJ, vJ, vJ, vJ, vJ, vJ, vJ, vJ, vJ, vJ, vJ, vJ, vJ, vJ, vJ, vJ, vJ, vJ, vJ, vJ, vJ, vJ, vJ, vJ, vJ, vJ, vJ, vJ, vJ, vJ, vJ, vJ, vJ, vJ, vJ, vJ, vJ, vJ, vJ, vJ, vJ, vJ, vJ, vJ, vJ, vJ, vJ, vJ], ob := [(0, AO.box [vI x, AV.rsl kc s, AV.rsl k3 d, AV.rsl k3 p, vB b, AV.rsl ki f, vI n]), (1, AO.row ki (cs.set (↑(bsD d e.snd.snd.snd.snd.snd.snd.snd.snd.snd.snd.snd.snd.snd.snd.snd.snd.snd.snd.fst) : Int).toNat (IntKind.i64.wrap ((cs.getD (↑(bsD d e.snd.snd.snd.snd.snd.snd.snd.snd.snd.snd.snd.snd.snd.snd.snd.snd.snd.snd.fst) : Int).toNat (edflt ki)).fst + 1), ())))], nx := 1000000, ps := [] }) False) False)) False)) False)) := by kernel_rfl
theorem bi72_6 (L : Lp) (R : Option Res → Prop) (N N2 : St → Prop) (x : Int) (s : List (Elem kc)) (d p : List (Elem k3)) (b : Bool) (f : List (Elem ki)) (n : Int) (q : Int) (e : Elem kc) (cs : List (Elem ki)) : (evP E72 G72 L (lp72 6) (si72 x s d p b f n q 6 e cs) (rkn72 L R 3 N 6 N2)) = (
    br (e.snd.snd.snd.snd.snd.snd.snd.snd.snd.snd.snd.snd.snd.snd.snd.snd.snd.snd.snd.snd.snd.fst == 0) (N2 { tm := [vJ, AV.ptr 0 0, vJ, AV.ows 1, vJ, vJ, vJ, vJ, vJ, vJ, vJ, vJ, vJ, vJ, vJ, vJ, vJ, AV.rsl kc s, vI (↑s.length : Int), vI q, vJ, vJ, vJ, vJ, AV.agg (mapK e), vI 7, vJ, vJ, vJ, vJ, vJ, vJ, vJ, vJ, vJ, vJ, vJ, vJ, vJ, vJ, vJ, vJ, vJ, vJ, vJ, vJ, vJ, vJ, vJ, vJ, vJ, vJ, vJ, vJ, vJ, vJ, vJ, vJ, vJ, vJ, vJ, vJ, vJ, vJ, vJ, vJ, vJ, vJ, vJ, vJ, vJ, vJ, vJ, vJ, vJ, vJ], ob := [(0, AO.box [vI x, AV.rsl kc s, AV.rsl k3 d, AV.rsl k3 p, vB b, AV.rsl ki f, vI n]), (1, AO.row ki cs)], nx := 1000000, ps := [] }) (br (decide (d.length ≤ 1048576)) (br (!bkD d e.snd.snd.snd.snd.snd.snd.snd.snd.snd.snd.snd.snd.snd.snd.snd.snd.snd.snd.snd.snd.snd.fst) (R (some { av := vB false, obs := [], outs := [] })) (br (decide (0 ≤ (↑(bsD d e.snd.snd.snd.snd.snd.snd.snd.snd.snd.snd.snd.snd.snd.snd.snd.snd.snd.snd.snd.snd.snd.fst) : Int) ∧ (↑(bsD d e.snd.snd.snd.snd.snd.snd.snd.snd.snd.snd.snd.snd.snd.snd.snd.snd.snd.snd.snd.snd.snd.fst) : Int) < (↑d.length : Int))) (br ((d.getD (↑(bsD d e.snd.snd.snd.snd.snd.snd.snd.snd.snd.snd.snd.snd.snd.snd.snd.snd.snd.snd.snd.snd.snd.fst) : Int).toNat (edflt k3)).fst != e.snd.snd.snd.snd.snd.snd.snd.snd.snd.snd.snd.snd.snd.snd.snd.snd.snd.snd.snd.snd.snd.snd.fst) (R (some { av := vB false, obs := [], outs := [] })) (br (decide (0 ≤ (↑(bsD d e.snd.snd.snd.snd.snd.snd.snd.snd.snd.snd.snd.snd.snd.snd.snd.snd.snd.snd.snd.snd.snd.fst) : Int) ∧ (↑(bsD d e.snd.snd.snd.snd.snd.snd.snd.snd.snd.snd.snd.snd.snd.snd.snd.snd.snd.snd.snd.snd.snd.fst) : Int) < (↑cs.length : Int))) (br (decide (0 ≤ (↑(bsD d e.snd.snd.snd.snd.snd.snd.snd.snd.snd.snd.snd.snd.snd.snd.snd.snd.snd.snd.snd.snd.snd.fst) : Int) ∧ (↑(bsD d e.snd.snd.snd.snd.snd.snd.snd.snd.snd.snd.snd.snd.snd.snd.snd.snd.snd.snd.snd.snd.snd.fst) : Int) < (↑cs.length : Int))) (N2 { tm := [vJ, AV.ptr 0 0, vJ, AV.ows 1, vJ, vJ, vJ, vJ, vJ, vJ, vJ, vJ, vJ, vJ, vJ, vJ, vJ, AV.rsl kc s, vI (↑s.length : Int), vI q, vJ, vJ, vJ, vJ, AV.agg (mapK e), vI 7, vJ, vJ, vJ, vJ, vJ, vJ, vJ, vJ, vJ, vJ, vJ, vJ, vJ, vJ, vJ, vJ, vJ, vJ, vJ, vJ, vJ, vJ, vJ, vJ, vJ, vJ, vJ, vJ, vJ, vJ, vJ, vJ, vJ, vJ, vJ, vJ, vJ, vJ, vJ, vJ, vJ, vJ, vJ, vJ, vJ, vJ, vJ, vJ, vJ, vJ], ob := [(0, AO.box [vI x, AV.rsl kc s, AV.rsl k3 d, AV.rsl k3 p, vB b, AV.rsl ki f, vI n]), (1, AO.row ki (cs.set (↑(bsD d e.snd.snd.snd.snd.snd.snd.snd.snd.snd.snd.snd.snd.snd.snd.snd.snd.snd.snd.snd.snd.snd.fst) : Int).toNat (IntKind.i64.wrap ((cs.getD (↑(bsD d e.snd.snd.snd.snd.snd.snd.snd.snd.snd.snd.snd.snd.snd.snd.snd.snd.snd.snd.snd.snd.snd.fst) : Int).toNat (edflt ki)).fst + 1), ())))], nx := 1000000, ps := [] }) False) False)) False)) False)) := by kernel_rfl
theorem bi72_7 (L : Lp) (R : Option Res → Prop) (N N2 : St → Prop) (x : Int) (s : List (Elem kc)) (d p : List (Elem k3)) (b : Bool) (f : List (Elem ki)) (n : Int) (q : Int) (e : Elem kc) (cs : List (Elem ki)) : (evP E72 G72 L (lp72 6) (si72 x s d p b f n q 7 e cs) (rkn72 L R 3 N 6 N2)) = (
    br (e.snd.snd.snd.snd.snd.snd.snd.snd.snd.snd.snd.snd.snd.snd.snd.snd.snd.snd.snd.snd.snd.snd.snd.snd.fst == 0) (N2 { tm := [vJ, AV.ptr 0 0, vJ, AV.ows 1, vJ, vJ, vJ, vJ, vJ, vJ, vJ, vJ, vJ, vJ, vJ, vJ, vJ, AV.rsl kc s, vI (↑s.length : Int), vI q, vJ, vJ, vJ, vJ, AV.agg (mapK e), vI 8, vJ, vJ, vJ, vJ, vJ, vJ, vJ, vJ, vJ, vJ, vJ, vJ, vJ, vJ, vJ, vJ, vJ, vJ, vJ, vJ, vJ, vJ, vJ, vJ, vJ, vJ, vJ, vJ, vJ, vJ, vJ, vJ, vJ, vJ, vJ, vJ, vJ, vJ, vJ, vJ, vJ, vJ, vJ, vJ, vJ, vJ, vJ, vJ, vJ, vJ], ob := [(0, AO.box [vI x, AV.rsl kc s, AV.rsl k3 d, AV.rsl k3 p, vB b, AV.rsl ki f, vI n]), (1, AO.row ki cs)], nx := 1000000, ps := [] }) (br (decide (d.length ≤ 1048576)) (br (!bkD d e.snd.snd.snd.snd.snd.snd.snd.snd.snd.snd.snd.snd.snd.snd.snd.snd.snd.snd.snd.snd.snd.snd.snd.snd.fst) (R (some { av := vB false, obs := [], outs := [] })) (br (decide (0 ≤ (↑(bsD d e.snd.snd.snd.snd.snd.snd.snd.snd.snd.snd.snd.snd.snd.snd.snd.snd.snd.snd.snd.snd.snd.snd.snd.snd.fst) : Int) ∧ (↑(bsD d e.snd.snd.snd.snd.snd.snd.snd.snd.snd.snd.snd.snd.snd.snd.snd.snd.snd.snd.snd.snd.snd.snd.snd.snd.fst) : Int) < (↑d.length : Int))) (br ((d.getD (↑(bsD d e.snd.snd.snd.snd.snd.snd.snd.snd.snd.snd.snd.snd.snd.snd.snd.snd.snd.snd.snd.snd.snd.snd.snd.snd.fst) : Int).toNat (edflt k3)).fst != e.snd.snd.snd.snd.snd.snd.snd.snd.snd.snd.snd.snd.snd.snd.snd.snd.snd.snd.snd.snd.snd.snd.snd.snd.snd.fst) (R (some { av := vB false, obs := [], outs := [] })) (br (decide (0 ≤ (↑(bsD d e.snd.snd.snd.snd.snd.snd.snd.snd.snd.snd.snd.snd.snd.snd.snd.snd.snd.snd.snd.snd.snd.snd.snd.snd.fst) : Int) ∧ (↑(bsD d e.snd.snd.snd.snd.snd.snd.snd.snd.snd.snd.snd.snd.snd.snd.snd.snd.snd.snd.snd.snd.snd.snd.snd.snd.fst) : Int) < (↑cs.length : Int))) (br (decide (0 ≤ (↑(bsD d e.snd.snd.snd.snd.snd.snd.snd.snd.snd.snd.snd.snd.snd.snd.snd.snd.snd.snd.snd.snd.snd.snd.snd.snd.fst) : Int) ∧ (↑(bsD d e.snd.snd.snd.snd.snd.snd.snd.snd.snd.snd.snd.snd.snd.snd.snd.snd.snd.snd.snd.snd.snd.snd.snd.snd.fst) : Int) < (↑cs.length : Int))) (N2 { tm := [vJ, AV.ptr 0 0, vJ, AV.ows 1, vJ, vJ, vJ, vJ, vJ, vJ, vJ, vJ, vJ, vJ, vJ, vJ, vJ, AV.rsl kc s, vI (↑s.length : Int), vI q, vJ, vJ, vJ, vJ, AV.agg (mapK e), vI 8, vJ, vJ, vJ, vJ, vJ, vJ, vJ, vJ, vJ, vJ, vJ, vJ, vJ, vJ, vJ, vJ, vJ, vJ, vJ, vJ, vJ, vJ, vJ, vJ, vJ, vJ, vJ, vJ, vJ, vJ, vJ, vJ, vJ, vJ, vJ, vJ, vJ, vJ, vJ, vJ, vJ, vJ, vJ, vJ, vJ, vJ, vJ, vJ, vJ, vJ], ob := [(0, AO.box [vI x, AV.rsl kc s, AV.rsl k3 d, AV.rsl k3 p, vB b, AV.rsl ki f, vI n]), (1, AO.row ki (cs.set (↑(bsD d e.snd.snd.snd.snd.snd.snd.snd.snd.snd.snd.snd.snd.snd.snd.snd.snd.snd.snd.snd.snd.snd.snd.snd.snd.fst) : Int).toNat (IntKind.i64.wrap ((cs.getD (↑(bsD d e.snd.snd.snd.snd.snd.snd.snd.snd.snd.snd.snd.snd.snd.snd.snd.snd.snd.snd.snd.snd.snd.snd.snd.snd.fst) : Int).toNat (edflt ki)).fst + 1), ())))], nx := 1000000, ps := [] }) False) False)) False)) False)) := by kernel_rfl
theorem bi72_8 (L : Lp) (R : Option Res → Prop) (N N2 : St → Prop) (x : Int) (s : List (Elem kc)) (d p : List (Elem k3)) (b : Bool) (f : List (Elem ki)) (n : Int) (q : Int) (e : Elem kc) (cs : List (Elem ki)) : (evP E72 G72 L (lp72 6) (si72 x s d p b f n q 8 e cs) (rkn72 L R 3 N 6 N2)) = (
    N { tm := [vJ, AV.ptr 0 0, vJ, AV.ows 1, vJ, vJ, vJ, vJ, vJ, vJ, vJ, vJ, vJ, vJ, vJ, vJ, vJ, AV.rsl kc s, vI (↑s.length : Int), vI (IntKind.i64.wrap (q + 1)), vJ, vJ, vJ, vJ, vJ, vJ, vJ, vJ, vJ, vJ, vJ, vJ, vJ, vJ, vJ, vJ, vJ, vJ, vJ, vJ, vJ, vJ, vJ, vJ, vJ, vJ, vJ, vJ, vJ, vJ, vJ, vJ, vJ, vJ, vJ, vJ, vJ, vJ, vJ, vJ, vJ, vJ, vJ, vJ, vJ, vJ, vJ, vJ, vJ, vJ, vJ, vJ, vJ, vJ, vJ, vJ], ob := [(0, AO.box [vI x, AV.rsl kc s, AV.rsl k3 d, AV.rsl k3 p, vB b, AV.rsl ki f, vI n]), (1, AO.row ki cs)], nx := 1000000, ps := [] }) := by kernel_rfl
def so72 (d : List (Elem k3)) (i : Int) (cs : List (Elem ki)) : St :=  ⟨[vJ, vJ, vJ, AV.ows 0, vJ, vJ, vJ, vJ, vJ, vJ, vJ, vJ, vJ, vJ, vJ, vJ, vJ, vJ, vJ, vJ, vJ, vJ, vJ, vJ, vJ, vJ, vJ, vJ, vJ, vJ, vJ, vJ, vJ, vJ, vJ, vJ, vJ, vJ, vJ, vJ, vJ, vJ, vJ, vJ, vJ, vJ, vJ, vJ, vJ, vJ, vJ, vJ, vJ, vJ, vJ, vJ, vJ, vJ, vJ, vJ, vJ, AV.rsl k3 d, vI (↑d.length : Int), .val (.int .i64 i), vJ, vJ, vJ, vJ, vJ, vJ, vJ, vJ, vJ, vJ, vJ, vJ], [(0, .row ki cs)], 1000000, []⟩
theorem bo72 (L : Lp) (R : Option Res → Prop) (N : St → Prop) (d : List (Elem k3)) (i : Int) (cs : List (Elem ki)) : (evP E72 G72 L (lp72 16) (so72 d i cs) (rk72 L R 16 N)) = (
    br (decide (i < (↑d.length : Int))) (br (decide (0 ≤ i ∧ i < (↑d.length : Int))) (br (decide (0 ≤ i ∧ i < (↑cs.length : Int))) (br ((d.getD i.toNat (edflt k3)).snd.snd.fst != (cs.getD i.toNat (edflt ki)).fst) (R (some { av := vB false, obs := [], outs := [] })) (N { tm := [vJ, vJ, vJ, AV.ows 0, vJ, vJ, vJ, vJ, vJ, vJ, vJ, vJ, vJ, vJ, vJ, vJ, vJ, vJ, vJ, vJ, vJ, vJ, vJ, vJ, vJ, vJ, vJ, vJ, vJ, vJ, vJ, vJ, vJ, vJ, vJ, vJ, vJ, vJ, vJ, vJ, vJ, vJ, vJ, vJ, vJ, vJ, vJ, vJ, vJ, vJ, vJ, vJ, vJ, vJ, vJ, vJ, vJ, vJ, vJ, vJ, vJ, AV.rsl k3 d, vI (↑d.length : Int), vI (IntKind.i64.wrap (i + 1)), vJ, vJ, vJ, vJ, vJ, vJ, vJ, vJ, vJ, vJ, vJ, vJ], ob := [(0, AO.row ki cs)], nx := 1000000, ps := [] })) False) False) (R (some { av := vB true, obs := [], outs := [] }))) := by kernel_rfl
end Go.Proofs.YtljilcingbohkabDoor.Ev

namespace Go.Proofs.YtljilcingbohkabDoor.Ev
open Go
set_option linter.unusedVariables false
set_option linter.unusedSimpArgs false
set_option maxRecDepth 100000
set_option maxHeartbeats 1000000
def cnI (d l : List (Elem k3)) (k : Nat) : Nat := l.countP fun p => p.1 != 0 && (bsD d p.1 == k)
def csI (d l : List (Elem k3)) : List (Elem ki) := (List.range d.length).map fun k => ((cnI d l k : Int), ())
def prI (d : List (Elem k3)) (p : Elem k3) : Bool := p.1 == 0 || (bkD d p.1 && ((atP d (bsD d p.1)).1 == p.2.1))
def cntI (d : List (Elem k3)) (s : List (Elem kc)) : Bool := (ptsOf s).all (prI d) && allB d.length fun k => (atP d k).2.2.1 == (cnI d (ptsOf s) k : Int)
def g72 : G1
  | [.agg us], [], k => match coreOf us with
    | some c => br (smCo c) (k ⟨.val (.bool (cntI c.2.2.1 c.2.1)), [], []⟩) False
    | none => False
  | _, _, _ => False
theorem ddt_len {d : List (Elem k3)} (h : ddtOk d = true) : d.length ≤ 48 := by
  unfold ddtOk at h
  rw [Bool.and_eq_true, decide_eq_true_eq] at h
  exact h.1
theorem ddt_at {d : List (Elem k3)} (h : ddtOk d = true) {k : Nat} (hk : k < d.length) : okAt d k = true := by
  simp only [ddtOk, Bool.and_eq_true, List.all_eq_true] at h
  exact h.2 k (by simp; exact hk)
def cnD (d : List (Elem k3)) (k : Nat) : Int := (atP d k).2.2.1
def adD (d : List (Elem k3)) (k : Nat) : Int := (atP d k).2.1
theorem ddt_ent {d : List (Elem k3)} (h : ddtOk d = true) {k : Nat} (hk : k < d.length) : (1 ≤ adD d k ∧ adD d k ≤ 119) ∧ (1 ≤ cnD d k ∧ cnD d k ≤ 1000) := by
  have := ddt_at h hk
  simp only [okAt, entryOk, within, Bool.and_eq_true, decide_eq_true_eq] at this
  exact ⟨⟨this.1.1.2.1, this.1.1.2.2⟩, this.1.2.1, this.1.2.2⟩
theorem ddt_step {d : List (Elem k3)} (h : ddtOk d = true) {k : Nat} (hk : k + 1 < d.length) : adD d k < adD d (k + 1) := by
  have := ddt_at h hk
  simp [okAt] at this
  exact this.2
theorem allC_next (d : List (Elem k3)) {i : Nat} (hi : i < d.length) : allC (d.take (i + 1)) = allC (d.take i) + cnD d i := by
  unfold allC
  rw [take_next d (edflt k3) hi, List.map_append, List.sum_append, List.map_cons, List.map_nil, List.sum_cons, List.sum_nil]
  show _ + (cnD d i + 0) = _
  rw [Int.add_zero]
theorem allC_bd {d : List (Elem k3)} (h : ddtOk d = true) : ∀ i, i ≤ d.length → 0 ≤ allC (d.take i) ∧ allC (d.take i) ≤ 1000 * (i : Int)
  | 0, _ => by simp [allC]
  | i + 1, hi => by
    have h1 := allC_bd h i (by omega)
    have h2 := (ddt_ent h (k := i) (by omega)).2
    rw [allC_next d (by omega)]
    have h3 : ((i + 1 : Nat) : Int) = (i : Int) + 1 := by omega
    rw [h3]
    omega
theorem h56 : G1Ok Tryd.prog 56 g56 := by
  intro args obs k h
  unfold g56 at h
  split at h
  · rename_i k us
    split at h
    rotate_left
    · exact h.elim
    rename_i c hc
    obtain rfl := coreOf_inv hc
    obtain ⟨x, s, d, p, b, f, n⟩ := c
    obtain ⟨hp, hd, h⟩ := brb2 h
    have hd : ddtOk d = true := hd
    have hl : s.length ≤ 1048576 := smCo_s hp
    have hdl := ddt_len hd
    refine ⟨_, ctr_fn okf hg56 Tryd.func56 (by kernel_rfl) (by kernel_rfl) (by kernel_rfl) fun C => ?_, h⟩
    show bodyP Ef G56 _ Tryd.f56 [coreAV x s d p b f n] [] _
    rw [e56]
    refine loopUp okf56 hg56 (fun i m => st56 x s d p b f n m i) d.length (fun i m => m = allC (d.take i) ∧ ∀ j, j < i → cntK d s j = true) (fun N i m hi hm next => ?_) 0 ⟨rfl, fun j hj => by omega⟩
    obtain ⟨hm, hall⟩ := hm
    show evP E56 G56 _ (lp56 3) (st56 x s d p b f n m i) (rk56 _ _ 3 _)
    have hb := allC_bd hd i hi
    rw [b56, Int.toNat_natCast, wrap_id (n := (i : Int) + 1) (by omega) (by omega)]
    refine br_dec (fun h2 => br_yes ⟨by omega, h2⟩ (br_t hp (br_yes ⟨by omega, h2⟩ (br_bne (fun h3 => ?_) (fun h3 => br_yes ⟨by omega, h2⟩ ?_))))) (fun h2 => ?_)
    · show _ = _
      have : cntS d s = false := by
        unfold cntS
        rw [allB_f (i := i) (by omega) h3]
        rfl
      rw [this]
    · have he := (ddt_ent hd (k := i) (by omega)).2
      have hn := allC_next d (i := i) (by omega)
      have hw : IntKind.i64.wrap (m + cnD d i) = m + cnD d i := wrap_id (by omega) (by omega)
      show N (st56 x s d p b f n (IntKind.i64.wrap (m + cnD d i)) ((i : Int) + 1))
      rw [hw]
      refine next (by omega) _ ⟨by omega, fun j hj => ?_⟩
      by_cases e : j < i
      · exact hall j e
      · have : j = i := by omega
        rw [this]
        exact h3
    · have hi' : i = d.length := by omega
      have hall' : allB d.length (cntK d s) = true := allB_t fun j hj => hall j (by omega)
      rw [hi', List.take_length] at hm
      rw [hi', List.take_length] at hb
      refine loopUp okf56 hg56 (fun i m => so56 x s d p b f n m i) s.length (fun i m => m = allC d - liveP (preP s i 0)) (fun N i m hi hm next => ?_) m (by rw [pre_zero, hm]; show _ = allC d - ((0 : Nat) : Int); omega)
      show evP E56 G56 _ (lp56 9) (so56 x s d p b f n m i) (rk56 _ _ 9 _)
      rw [bo56]
      refine br_dec (fun h2 => ?_) (fun h2 => ?_)
      · refine loopUp okf56 hg56 (fun j m => si56 x s d p b f n m i j) 8 (fun j m => m = allC d - liveP (preP s i j)) (fun N2 j m hj hm next2 => ?_) m hm
        have hle := liveP_le (preP s i j)
        have hle2 := pre_len s i j
        have cs : j = 0 ∨ j = 1 ∨ j = 2 ∨ j = 3 ∨ j = 4 ∨ j = 5 ∨ j = 6 ∨ j = 7 ∨ j = 8 := by omega
        rcases cs with rfl | rfl | rfl | rfl | rfl | rfl | rfl | rfl | rfl
        · show evP E56 G56 _ (lp56 12) (si56 x s d p b f n m i 0) (rkn56 _ _ 9 N 12 _)
          have hn := liveP_next (preP s i 0) (atP (mps (atC s i)) 0)
          rw [← pre_next s i (j := 0) (by omega)] at hn
          rw [bi56_0, Int.toNat_natCast, wrap_id (n := m - 1) (by omega) (by omega)]
          refine br_yes ⟨by omega, h2⟩ (br_intro (fun h3 => ?_) (fun h3 => ?_))
          · refine next2 (by omega) _ ?_
            rw [if_pos (show decide ((atP (mps (atC s i)) 0).1 > 0) = true from h3)] at hn
            rw [hn]
            omega
          · refine next2 (by omega) _ ?_
            rw [if_neg (by rw [show decide ((atP (mps (atC s i)) 0).1 > 0) = false from h3]; exact Bool.false_ne_true)] at hn
            rw [hn]
            omega
        · show evP E56 G56 _ (lp56 12) (si56 x s d p b f n m i 1) (rkn56 _ _ 9 N 12 _)
          have hn := liveP_next (preP s i 1) (atP (mps (atC s i)) 1)
          rw [← pre_next s i (j := 1) (by omega)] at hn
          rw [bi56_1, Int.toNat_natCast, wrap_id (n := m - 1) (by omega) (by omega)]
          refine br_yes ⟨by omega, h2⟩ (br_intro (fun h3 => ?_) (fun h3 => ?_))
          · refine next2 (by omega) _ ?_
            rw [if_pos (show decide ((atP (mps (atC s i)) 1).1 > 0) = true from h3)] at hn
            rw [hn]
            omega
          · refine next2 (by omega) _ ?_
            rw [if_neg (by rw [show decide ((atP (mps (atC s i)) 1).1 > 0) = false from h3]; exact Bool.false_ne_true)] at hn
            rw [hn]
            omega
        · show evP E56 G56 _ (lp56 12) (si56 x s d p b f n m i 2) (rkn56 _ _ 9 N 12 _)
          have hn := liveP_next (preP s i 2) (atP (mps (atC s i)) 2)
          rw [← pre_next s i (j := 2) (by omega)] at hn
          rw [bi56_2, Int.toNat_natCast, wrap_id (n := m - 1) (by omega) (by omega)]
          refine br_yes ⟨by omega, h2⟩ (br_intro (fun h3 => ?_) (fun h3 => ?_))
          · refine next2 (by omega) _ ?_
            rw [if_pos (show decide ((atP (mps (atC s i)) 2).1 > 0) = true from h3)] at hn
            rw [hn]
            omega
          · refine next2 (by omega) _ ?_
            rw [if_neg (by rw [show decide ((atP (mps (atC s i)) 2).1 > 0) = false from h3]; exact Bool.false_ne_true)] at hn
            rw [hn]
            omega
        · show evP E56 G56 _ (lp56 12) (si56 x s d p b f n m i 3) (rkn56 _ _ 9 N 12 _)
          have hn := liveP_next (preP s i 3) (atP (mps (atC s i)) 3)
          rw [← pre_next s i (j := 3) (by omega)] at hn
          rw [bi56_3, Int.toNat_natCast, wrap_id (n := m - 1) (by omega) (by omega)]
          refine br_yes ⟨by omega, h2⟩ (br_intro (fun h3 => ?_) (fun h3 => ?_))
          · refine next2 (by omega) _ ?_
            rw [if_pos (show decide ((atP (mps (atC s i)) 3).1 > 0) = true from h3)] at hn
            rw [hn]
            omega
          · refine next2 (by omega) _ ?_
            rw [if_neg (by rw [show decide ((atP (mps (atC s i)) 3).1 > 0) = false from h3]; exact Bool.false_ne_true)] at hn
            rw [hn]
            omega
        · show evP E56 G56 _ (lp56 12) (si56 x s d p b f n m i 4) (rkn56 _ _ 9 N 12 _)
          have hn := liveP_next (preP s i 4) (atP (mps (atC s i)) 4)
          rw [← pre_next s i (j := 4) (by omega)] at hn
          rw [bi56_4, Int.toNat_natCast, wrap_id (n := m - 1) (by omega) (by omega)]
          refine br_yes ⟨by omega, h2⟩ (br_intro (fun h3 => ?_) (fun h3 => ?_))
          · refine next2 (by omega) _ ?_
            rw [if_pos (show decide ((atP (mps (atC s i)) 4).1 > 0) = true from h3)] at hn
            rw [hn]
            omega
          · refine next2 (by omega) _ ?_
            rw [if_neg (by rw [show decide ((atP (mps (atC s i)) 4).1 > 0) = false from h3]; exact Bool.false_ne_true)] at hn
            rw [hn]
            omega
        · show evP E56 G56 _ (lp56 12) (si56 x s d p b f n m i 5) (rkn56 _ _ 9 N 12 _)
          have hn := liveP_next (preP s i 5) (atP (mps (atC s i)) 5)
          rw [← pre_next s i (j := 5) (by omega)] at hn
          rw [bi56_5, Int.toNat_natCast, wrap_id (n := m - 1) (by omega) (by omega)]
          refine br_yes ⟨by omega, h2⟩ (br_intro (fun h3 => ?_) (fun h3 => ?_))
          · refine next2 (by omega) _ ?_
            rw [if_pos (show decide ((atP (mps (atC s i)) 5).1 > 0) = true from h3)] at hn
            rw [hn]
            omega
          · refine next2 (by omega) _ ?_
            rw [if_neg (by rw [show decide ((atP (mps (atC s i)) 5).1 > 0) = false from h3]; exact Bool.false_ne_true)] at hn
            rw [hn]
            omega
        · show evP E56 G56 _ (lp56 12) (si56 x s d p b f n m i 6) (rkn56 _ _ 9 N 12 _)
          have hn := liveP_next (preP s i 6) (atP (mps (atC s i)) 6)
          rw [← pre_next s i (j := 6) (by omega)] at hn
          rw [bi56_6, Int.toNat_natCast, wrap_id (n := m - 1) (by omega) (by omega)]
          refine br_yes ⟨by omega, h2⟩ (br_intro (fun h3 => ?_) (fun h3 => ?_))
          · refine next2 (by omega) _ ?_
            rw [if_pos (show decide ((atP (mps (atC s i)) 6).1 > 0) = true from h3)] at hn
            rw [hn]
            omega
          · refine next2 (by omega) _ ?_
            rw [if_neg (by rw [show decide ((atP (mps (atC s i)) 6).1 > 0) = false from h3]; exact Bool.false_ne_true)] at hn
            rw [hn]
            omega
        · show evP E56 G56 _ (lp56 12) (si56 x s d p b f n m i 7) (rkn56 _ _ 9 N 12 _)
          have hn := liveP_next (preP s i 7) (atP (mps (atC s i)) 7)
          rw [← pre_next s i (j := 7) (by omega)] at hn
          rw [bi56_7, Int.toNat_natCast, wrap_id (n := m - 1) (by omega) (by omega)]
          refine br_yes ⟨by omega, h2⟩ (br_intro (fun h3 => ?_) (fun h3 => ?_))
          · refine next2 (by omega) _ ?_
            rw [if_pos (show decide ((atP (mps (atC s i)) 7).1 > 0) = true from h3)] at hn
            rw [hn]
            omega
          · refine next2 (by omega) _ ?_
            rw [if_neg (by rw [show decide ((atP (mps (atC s i)) 7).1 > 0) = false from h3]; exact Bool.false_ne_true)] at hn
            rw [hn]
            omega
        · show evP E56 G56 _ (lp56 12) (si56 x s d p b f n m i 8) (rkn56 _ _ 9 N 12 _)
          rw [bi56_8, wrap_id (n := (i : Int) + 1) (by omega) (by omega)]
          exact next (by omega) _ (by rw [hm, pre_end (by omega)])
      · show _ = _
        have e : i = s.length := by omega
        have : cntS d s = (m == 0) := by
          unfold cntS
          rw [hall', hm, e, pre_all, Bool.true_and]
        rw [this]
  · exact h.elim
theorem sums_f {d : List (Elem k3)} {s : List (Elem kc)} {i j : Nat} (hi : i < s.length) (hj : j < 8) (h : sumK d (atP (mps (atC s i)) j) = false) : (ptsOf s).all (sumK d) = false := by
  rw [List.all_eq_false]
  exact ⟨_, pts_mem hi hj, by rw [h]; exact Bool.false_ne_true⟩
theorem sumK_1 {d : List (Elem k3)} {p : Elem k3} (h1 : decide (p.1 > 0) = true) (h2 : okD d p.1 = false) : sumK d p = false := by unfold sumK; rw [h1, h2]; rfl
theorem sumK_2 {d : List (Elem k3)} {p : Elem k3} (h1 : decide (p.1 > 0) = true) (h2 : okD d p.1 = true) : sumK d p = ((atP d (lnD d p.1)).1 == p.2.1) := by unfold sumK; rw [h1, h2]; rfl
theorem sumK_3 {d : List (Elem k3)} {p : Elem k3} (h1 : decide (p.1 > 0) = false) : sumK d p = true := by unfold sumK; rw [h1]; rfl
theorem okD_lt {d : List (Elem k3)} {t : Int} (h : okD d t = true) : lnD d t < d.length := by
  unfold okD at h
  rw [Bool.and_eq_true] at h
  exact of_decide_eq_true h.1
theorem bkD_lt {d : List (Elem k3)} {t : Int} (h : bkD d t = true) : bsD d t < d.length := by
  unfold bkD at h
  rw [Bool.and_eq_true] at h
  exact of_decide_eq_true h.1
theorem all_next {α : Type} {q : α → Bool} {l : List α} {e : α} (h : l.all q = true) (he : q e = true) : (l ++ [e]).all q = true := by
  rw [List.all_append, h, List.all_cons, he]
  rfl
theorem h57 : G1Ok Tryd.prog 57 g57 := by
  intro args obs k h
  unfold g57 at h
  split at h
  · rename_i k us
    split at h
    rotate_left
    · exact h.elim
    rename_i c hc
    obtain rfl := coreOf_inv hc
    obtain ⟨x, s, d, p, b, f, n⟩ := c
    obtain ⟨hp, h⟩ := br_and h
    have hl : s.length ≤ 1048576 := smCo_s hp
    have hdl : d.length ≤ 1048576 := smCo_d hp
    refine ⟨_, ctr_fn okf hg57 Tryd.func57 (by kernel_rfl) (by kernel_rfl) (by kernel_rfl) fun C => ?_, h⟩
    show bodyP Ef G57 _ Tryd.f57 [coreAV x s d p b f n] [] _
    rw [e57]
    refine loopUp okf57 hg57 (α := Unit) (fun i _ => st57 x s d p b f n i) s.length (fun i _ => (preP s i 0).all (sumK d) = true) (fun N i m hi hm next => ?_) () (by rw [pre_zero]; rfl)
    show evP E57 G57 _ (lp57 2) (st57 x s d p b f n i) (rk57 _ _ 2 _)
    rw [b57]
    refine br_dec (fun h2 => ?_) (fun h2 => ?_)
    · refine loopUp okf57 hg57 (α := Unit) (fun j _ => si57 x s d p b f n i j) 8 (fun j _ => (preP s i j).all (sumK d) = true) (fun N2 j m hj hm next2 => ?_) () hm
      have cs : j = 0 ∨ j = 1 ∨ j = 2 ∨ j = 3 ∨ j = 4 ∨ j = 5 ∨ j = 6 ∨ j = 7 ∨ j = 8 := by omega
      rcases cs with rfl | rfl | rfl | rfl | rfl | rfl | rfl | rfl | rfl
      · show evP E57 G57 _ (lp57 5) (si57 x s d p b f n i 0) (rkn57 _ _ 2 N 5 _)
        rw [bi57_0, Int.toNat_natCast, Int.toNat_natCast]
        have nx : sumK d (atP (mps (atC s i)) 0) = true → _ := fun hq => next2 (by omega) () (by rw [pre_next s i (by omega)]; exact all_next hm hq)
        have bad : sumK d (atP (mps (atC s i)) 0) = false → _ := fun hq => sums_f (i := i) (by omega) (by omega) hq
        generalize hP : atP (mps (atC s i)) 0 = P at nx bad
        refine br_yes ⟨by omega, h2⟩ (br_yes hdl (br_intro (fun h3 => ?_) (fun h3 => ?_)))
        · have h3 : decide (P.1 > 0) = true := by rw [← hP]; exact h3
          refine br_not (fun h4 => ?_) (fun h4 => ?_)
          · have h4 : okD d P.1 = false := by rw [← hP]; exact h4
            show _ = _
            rw [bad (sumK_1 h3 h4)]
          · have h4' : okD d P.1 = true := by rw [← hP]; exact h4
            have hk := okD_lt h4'
            rw [← hP] at hk
            refine br_yes ⟨Int.natCast_nonneg _, Int.ofNat_lt.2 hk⟩ (br_bne (fun h5 => ?_) (fun h5 => ?_))
            · have h5 : ((atP d (lnD d P.1)).1 == P.2.1) = false := by rw [← hP]; exact h5
              show _ = _
              rw [bad ((sumK_2 h3 h4').trans h5)]
            · have h5 : ((atP d (lnD d P.1)).1 == P.2.1) = true := by rw [← hP]; exact h5
              exact nx ((sumK_2 h3 h4').trans h5)
        · have h3 : decide (P.1 > 0) = false := by rw [← hP]; exact h3
          exact nx (sumK_3 h3)
      · show evP E57 G57 _ (lp57 5) (si57 x s d p b f n i 1) (rkn57 _ _ 2 N 5 _)
        rw [bi57_1, Int.toNat_natCast, Int.toNat_natCast]
        have nx : sumK d (atP (mps (atC s i)) 1) = true → _ := fun hq => next2 (by omega) () (by rw [pre_next s i (by omega)]; exact all_next hm hq)
        have bad : sumK d (atP (mps (atC s i)) 1) = false → _ := fun hq => sums_f (i := i) (by omega) (by omega) hq
        generalize hP : atP (mps (atC s i)) 1 = P at nx bad
        refine br_yes ⟨by omega, h2⟩ (br_yes hdl (br_intro (fun h3 => ?_) (fun h3 => ?_)))
        · have h3 : decide (P.1 > 0) = true := by rw [← hP]; exact h3
          refine br_not (fun h4 => ?_) (fun h4 => ?_)
          · have h4 : okD d P.1 = false := by rw [← hP]; exact h4
            show _ = _
            rw [bad (sumK_1 h3 h4)]
          · have h4' : okD d P.1 = true := by rw [← hP]; exact h4
            have hk := okD_lt h4'
            rw [← hP] at hk
            refine br_yes ⟨Int.natCast_nonneg _, Int.ofNat_lt.2 hk⟩ (br_bne (fun h5 => ?_) (fun h5 => ?_))
            · have h5 : ((atP d (lnD d P.1)).1 == P.2.1) = false := by rw [← hP]; exact h5
              show _ = _
              rw [bad ((sumK_2 h3 h4').trans h5)]
            · have h5 : ((atP d (lnD d P.1)).1 == P.2.1) = true := by rw [← hP]; exact h5
              exact nx ((sumK_2 h3 h4').trans h5)
        · have h3 : decide (P.1 > 0) = false := by rw [← hP]; exact h3
          exact nx (sumK_3 h3)
      · show evP E57 G57 _ (lp57 5) (si57 x s d p b f n i 2) (rkn57 _ _ 2 N 5 _)
        rw [bi57_2, Int.toNat_natCast, Int.toNat_natCast]
        have nx : sumK d (atP (mps (atC s i)) 2) = true → _ := fun hq => next2 (by omega) () (by rw [pre_next s i (by omega)]; exact all_next hm hq)
        have bad : sumK d (atP (mps (atC s i)) 2) = false → _ := fun hq => sums_f (i := i) (by omega) (by omega) hq
        generalize hP : atP (mps (atC s i)) 2 = P at nx bad
        refine br_yes ⟨by omega, h2⟩ (br_yes hdl (br_intro (fun h3 => ?_) (fun h3 => ?_)))
        · have h3 : decide (P.1 > 0) = true := by rw [← hP]; exact h3
          refine br_not (fun h4 => ?_) (fun h4 => ?_)
          · have h4 : okD d P.1 = false := by rw [← hP]; exact h4
            show _ = _
            rw [bad (sumK_1 h3 h4)]
          · have h4' : okD d P.1 = true := by rw [← hP]; exact h4
            have hk := okD_lt h4'
            rw [← hP] at hk
            refine br_yes ⟨Int.natCast_nonneg _, Int.ofNat_lt.2 hk⟩ (br_bne (fun h5 => ?_) (fun h5 => ?_))
            · have h5 : ((atP d (lnD d P.1)).1 == P.2.1) = false := by rw [← hP]; exact h5
              show _ = _
              rw [bad ((sumK_2 h3 h4').trans h5)]
            · have h5 : ((atP d (lnD d P.1)).1 == P.2.1) = true := by rw [← hP]; exact h5
              exact nx ((sumK_2 h3 h4').trans h5)
        · have h3 : decide (P.1 > 0) = false := by rw [← hP]; exact h3
          exact nx (sumK_3 h3)
      · show evP E57 G57 _ (lp57 5) (si57 x s d p b f n i 3) (rkn57 _ _ 2 N 5 _)
        rw [bi57_3, Int.toNat_natCast, Int.toNat_natCast]
        have nx : sumK d (atP (mps (atC s i)) 3) = true → _ := fun hq => next2 (by omega) () (by rw [pre_next s i (by omega)]; exact all_next hm hq)
        have bad : sumK d (atP (mps (atC s i)) 3) = false → _ := fun hq => sums_f (i := i) (by omega) (by omega) hq
        generalize hP : atP (mps (atC s i)) 3 = P at nx bad
        refine br_yes ⟨by omega, h2⟩ (br_yes hdl (br_intro (fun h3 => ?_) (fun h3 => ?_)))
        · have h3 : decide (P.1 > 0) = true := by rw [← hP]; exact h3
          refine br_not (fun h4 => ?_) (fun h4 => ?_)
          · have h4 : okD d P.1 = false := by rw [← hP]; exact h4
            show _ = _
            rw [bad (sumK_1 h3 h4)]
          · have h4' : okD d P.1 = true := by rw [← hP]; exact h4
            have hk := okD_lt h4'
            rw [← hP] at hk
            refine br_yes ⟨Int.natCast_nonneg _, Int.ofNat_lt.2 hk⟩ (br_bne (fun h5 => ?_) (fun h5 => ?_))
            · have h5 : ((atP d (lnD d P.1)).1 == P.2.1) = false := by rw [← hP]; exact h5
              show _ = _
              rw [bad ((sumK_2 h3 h4').trans h5)]
            · have h5 : ((atP d (lnD d P.1)).1 == P.2.1) = true := by rw [← hP]; exact h5
              exact nx ((sumK_2 h3 h4').trans h5)
        · have h3 : decide (P.1 > 0) = false := by rw [← hP]; exact h3
          exact nx (sumK_3 h3)
      · show evP E57 G57 _ (lp57 5) (si57 x s d p b f n i 4) (rkn57 _ _ 2 N 5 _)
        rw [bi57_4, Int.toNat_natCast, Int.toNat_natCast]
        have nx : sumK d (atP (mps (atC s i)) 4) = true → _ := fun hq => next2 (by omega) () (by rw [pre_next s i (by omega)]; exact all_next hm hq)
        have bad : sumK d (atP (mps (atC s i)) 4) = false → _ := fun hq => sums_f (i := i) (by omega) (by omega) hq
        generalize hP : atP (mps (atC s i)) 4 = P at nx bad
        refine br_yes ⟨by omega, h2⟩ (br_yes hdl (br_intro (fun h3 => ?_) (fun h3 => ?_)))
        · have h3 : decide (P.1 > 0) = true := by rw [← hP]; exact h3
          refine br_not (fun h4 => ?_) (fun h4 => ?_)
          · have h4 : okD d P.1 = false := by rw [← hP]; exact h4
            show _ = _
            rw [bad (sumK_1 h3 h4)]
          · have h4' : okD d P.1 = true := by rw [← hP]; exact h4
            have hk := okD_lt h4'
            rw [← hP] at hk
            refine br_yes ⟨Int.natCast_nonneg _, Int.ofNat_lt.2 hk⟩ (br_bne (fun h5 => ?_) (fun h5 => ?_))
            · have h5 : ((atP d (lnD d P.1)).1 == P.2.1) = false := by rw [← hP]; exact h5
              show _ = _
              rw [bad ((sumK_2 h3 h4').trans h5)]
            · have h5 : ((atP d (lnD d P.1)).1 == P.2.1) = true := by rw [← hP]; exact h5
              exact nx ((sumK_2 h3 h4').trans h5)
        · have h3 : decide (P.1 > 0) = false := by rw [← hP]; exact h3
          exact nx (sumK_3 h3)
      · show evP E57 G57 _ (lp57 5) (si57 x s d p b f n i 5) (rkn57 _ _ 2 N 5 _)
        rw [bi57_5, Int.toNat_natCast, Int.toNat_natCast]
        have nx : sumK d (atP (mps (atC s i)) 5) = true → _ := fun hq => next2 (by omega) () (by rw [pre_next s i (by omega)]; exact all_next hm hq)
        have bad : sumK d (atP (mps (atC s i)) 5) = false → _ := fun hq => sums_f (i := i) (by omega) (by omega) hq
        generalize hP : atP (mps (atC s i)) 5 = P at nx bad
        refine br_yes ⟨by omega, h2⟩ (br_yes hdl (br_intro (fun h3 => ?_) (fun h3 => ?_)))
        · have h3 : decide (P.1 > 0) = true := by rw [← hP]; exact h3
          refine br_not (fun h4 => ?_) (fun h4 => ?_)
          · have h4 : okD d P.1 = false := by rw [← hP]; exact h4
            show _ = _
            rw [bad (sumK_1 h3 h4)]
          · have h4' : okD d P.1 = true := by rw [← hP]; exact h4
            have hk := okD_lt h4'
            rw [← hP] at hk
            refine br_yes ⟨Int.natCast_nonneg _, Int.ofNat_lt.2 hk⟩ (br_bne (fun h5 => ?_) (fun h5 => ?_))
            · have h5 : ((atP d (lnD d P.1)).1 == P.2.1) = false := by rw [← hP]; exact h5
              show _ = _
              rw [bad ((sumK_2 h3 h4').trans h5)]
            · have h5 : ((atP d (lnD d P.1)).1 == P.2.1) = true := by rw [← hP]; exact h5
              exact nx ((sumK_2 h3 h4').trans h5)
        · have h3 : decide (P.1 > 0) = false := by rw [← hP]; exact h3
          exact nx (sumK_3 h3)
      · show evP E57 G57 _ (lp57 5) (si57 x s d p b f n i 6) (rkn57 _ _ 2 N 5 _)
        rw [bi57_6, Int.toNat_natCast, Int.toNat_natCast]
        have nx : sumK d (atP (mps (atC s i)) 6) = true → _ := fun hq => next2 (by omega) () (by rw [pre_next s i (by omega)]; exact all_next hm hq)
        have bad : sumK d (atP (mps (atC s i)) 6) = false → _ := fun hq => sums_f (i := i) (by omega) (by omega) hq
        generalize hP : atP (mps (atC s i)) 6 = P at nx bad
        refine br_yes ⟨by omega, h2⟩ (br_yes hdl (br_intro (fun h3 => ?_) (fun h3 => ?_)))
        · have h3 : decide (P.1 > 0) = true := by rw [← hP]; exact h3
          refine br_not (fun h4 => ?_) (fun h4 => ?_)
          · have h4 : okD d P.1 = false := by rw [← hP]; exact h4
            show _ = _
            rw [bad (sumK_1 h3 h4)]
          · have h4' : okD d P.1 = true := by rw [← hP]; exact h4
            have hk := okD_lt h4'
            rw [← hP] at hk
            refine br_yes ⟨Int.natCast_nonneg _, Int.ofNat_lt.2 hk⟩ (br_bne (fun h5 => ?_) (fun h5 => ?_))
            · have h5 : ((atP d (lnD d P.1)).1 == P.2.1) = false := by rw [← hP]; exact h5
              show _ = _
              rw [bad ((sumK_2 h3 h4').trans h5)]
            · have h5 : ((atP d (lnD d P.1)).1 == P.2.1) = true := by rw [← hP]; exact h5
              exact nx ((sumK_2 h3 h4').trans h5)
        · have h3 : decide (P.1 > 0) = false := by rw [← hP]; exact h3
          exact nx (sumK_3 h3)
      · show evP E57 G57 _ (lp57 5) (si57 x s d p b f n i 7) (rkn57 _ _ 2 N 5 _)
        rw [bi57_7, Int.toNat_natCast, Int.toNat_natCast]
        have nx : sumK d (atP (mps (atC s i)) 7) = true → _ := fun hq => next2 (by omega) () (by rw [pre_next s i (by omega)]; exact all_next hm hq)
        have bad : sumK d (atP (mps (atC s i)) 7) = false → _ := fun hq => sums_f (i := i) (by omega) (by omega) hq
        generalize hP : atP (mps (atC s i)) 7 = P at nx bad
        refine br_yes ⟨by omega, h2⟩ (br_yes hdl (br_intro (fun h3 => ?_) (fun h3 => ?_)))
        · have h3 : decide (P.1 > 0) = true := by rw [← hP]; exact h3
          refine br_not (fun h4 => ?_) (fun h4 => ?_)
          · have h4 : okD d P.1 = false := by rw [← hP]; exact h4
            show _ = _
            rw [bad (sumK_1 h3 h4)]
          · have h4' : okD d P.1 = true := by rw [← hP]; exact h4
            have hk := okD_lt h4'
            rw [← hP] at hk
            refine br_yes ⟨Int.natCast_nonneg _, Int.ofNat_lt.2 hk⟩ (br_bne (fun h5 => ?_) (fun h5 => ?_))
            · have h5 : ((atP d (lnD d P.1)).1 == P.2.1) = false := by rw [← hP]; exact h5
              show _ = _
              rw [bad ((sumK_2 h3 h4').trans h5)]
            · have h5 : ((atP d (lnD d P.1)).1 == P.2.1) = true := by rw [← hP]; exact h5
              exact nx ((sumK_2 h3 h4').trans h5)
        · have h3 : decide (P.1 > 0) = false := by rw [← hP]; exact h3
          exact nx (sumK_3 h3)
      · show evP E57 G57 _ (lp57 5) (si57 x s d p b f n i 8) (rkn57 _ _ 2 N 5 _)
        rw [bi57_8, wrap_id (n := (i : Int) + 1) (by omega) (by omega)]
        exact next (by omega) () (by rw [← pre_end (by omega)]; exact hm)
    · show _ = _
      have e : i = s.length := by omega
      rw [e, pre_all] at hm
      rw [hm]
  · exact h.elim
theorem csI_len (d l : List (Elem k3)) : (csI d l).length = d.length := by unfold csI; rw [List.length_map, List.length_range]
theorem csI_at (d l : List (Elem k3)) {k : Nat} (hk : k < d.length) : (csI d l).getD k (edflt ki) = ((cnI d l k : Int), ()) := by
  unfold csI
  rw [List.getD_eq_getElem?_getD, List.getElem?_map, List.getElem?_range hk]
  rfl
theorem cnI_next (d l : List (Elem k3)) (e : Elem k3) (k : Nat) : cnI d (l ++ [e]) k = cnI d l k + if (e.1 != 0 && (bsD d e.1 == k)) = true then 1 else 0 := by
  unfold cnI
  rw [List.countP_append, List.countP_cons, List.countP_nil]
  simp
theorem cnI_le (d l : List (Elem k3)) (k : Nat) : cnI d l k ≤ l.length := List.countP_le_length
theorem csI_zero {d l : List (Elem k3)} {e : Elem k3} (h : (e.1 == 0) = true) : csI d (l ++ [e]) = csI d l := by
  unfold csI
  refine List.map_congr_left fun k hk => ?_
  rw [cnI_next, if_neg (by unfold bne; rw [h]; exact Bool.false_ne_true)]
  rfl
theorem csI_one {d l : List (Elem k3)} {e : Elem k3} (h : (e.1 == 0) = false) : csI d (l ++ [e]) = (csI d l).set (bsD d e.1) ((cnI d l (bsD d e.1) : Int) + 1, ()) := by
  have hb : (e.1 != 0) = true := by unfold bne; rw [h]; rfl
  unfold csI
  refine List.ext_getElem (by simp) fun k h1 h2 => ?_
  rw [List.getElem_set]
  simp only [List.getElem_map, List.getElem_range]
  rw [cnI_next, hb, Bool.true_and]
  by_cases e1 : bsD d e.1 = k
  · rw [if_pos (by rw [beq_iff_eq]; exact e1), if_pos e1, e1]
    rfl
  · rw [if_neg (by rw [beq_iff_eq]; exact e1), if_neg e1]
    rfl
theorem prI_0 {d : List (Elem k3)} {p : Elem k3} (h : (p.1 == 0) = true) : prI d p = true := by unfold prI; rw [h]; rfl
theorem prI_1 {d : List (Elem k3)} {p : Elem k3} (h : (p.1 == 0) = false) (h2 : bkD d p.1 = false) : prI d p = false := by unfold prI; rw [h, h2]; rfl
theorem prI_2 {d : List (Elem k3)} {p : Elem k3} (h : (p.1 == 0) = false) (h2 : bkD d p.1 = true) : prI d p = ((atP d (bsD d p.1)).1 == p.2.1) := by unfold prI; rw [h, h2]; rfl
theorem cntI_f {d : List (Elem k3)} {s : List (Elem kc)} {i j : Nat} (hi : i < s.length) (hj : j < 8) (h : prI d (atP (mps (atC s i)) j) = false) : cntI d s = false := by
  have : (ptsOf s).all (prI d) = false := by
    rw [List.all_eq_false]
    exact ⟨_, pts_mem hi hj, by rw [h]; exact Bool.false_ne_true⟩
  unfold cntI
  rw [this]
  rfl
theorem h72 : G1Ok Tryd.prog 72 g72 := by
  intro args obs k h
  unfold g72 at h
  split at h
  · rename_i k us
    split at h
    rotate_left
    · exact h.elim
    rename_i c hc
    obtain rfl := coreOf_inv hc
    obtain ⟨x, s, d, p, b, f, n⟩ := c
    obtain ⟨hp, h⟩ := br_and h
    have hl : s.length ≤ 1048576 := smCo_s hp
    have hdl : d.length ≤ 1048576 := smCo_d hp
    refine ⟨_, ctr_fn okf hg72 Tryd.func72 (by kernel_rfl) (by kernel_rfl) (by kernel_rfl) fun C => ?_, h⟩
    show bodyP Ef G72 _ Tryd.f72 [coreAV x s d p b f n] [] _
    rw [e72]
    refine br_yes ⟨by omega, by omega, by omega⟩ ?_
    refine loopUp okf72 hg72 (fun i cs => st72 x s d p b f n i cs) s.length (fun i cs => cs = csI d (preP s i 0) ∧ (preP s i 0).all (prI d) = true) (fun N i cs hi hm next => ?_) _ ⟨by
      rw [pre_zero, Int.toNat_natCast]
      unfold csI
      refine List.ext_getElem (by simp) fun k h1 h2 => ?_
      rw [List.getElem_replicate, List.getElem_map]
      rfl, by rw [pre_zero]; rfl⟩
    obtain ⟨hm, hall⟩ := hm
    show evP E72 G72 _ (lp72 3) (st72 x s d p b f n i cs) (rk72 _ _ 3 _)
    rw [b72, Int.toNat_natCast]
    refine br_dec (fun h2 => br_yes ⟨by omega, h2⟩ ?_) (fun h2 => ?_)
    · refine loopUp okf72 hg72 (fun j cs => si72 x s d p b f n i j (atC s i) cs) 8 (fun j cs => cs = csI d (preP s i j) ∧ (preP s i j).all (prI d) = true) (fun N2 j cs hj hm next2 => ?_) cs ⟨hm, hall⟩
      obtain ⟨hm, hall⟩ := hm
      have hcl : cs.length = d.length := by rw [hm, csI_len]
      have cj : j = 0 ∨ j = 1 ∨ j = 2 ∨ j = 3 ∨ j = 4 ∨ j = 5 ∨ j = 6 ∨ j = 7 ∨ j = 8 := by omega
      rcases cj with rfl | rfl | rfl | rfl | rfl | rfl | rfl | rfl | rfl
      · show evP E72 G72 _ (lp72 6) (si72 x s d p b f n i 0 (atC s i) cs) (rkn72 _ _ 3 N 6 _)
        rw [bi72_0]
        have hn := pre_next s i (j := 0) (by omega)
        have hle := pre_len s i 0
        generalize hP : atP (mps (atC s i)) 0 = P at hn
        have hPm : prI d P = false → cntI d s = false := fun hq => cntI_f (i := i) (j := 0) (by omega) (by omega) (by rw [hP]; exact hq)
        refine br_intro (fun h3 => ?_) (fun h3 => ?_)
        · have h3 : (P.1 == 0) = true := by rw [← hP]; exact h3
          exact next2 (by omega) cs ⟨by rw [hn, csI_zero h3]; exact hm, by rw [hn]; exact all_next hall (prI_0 h3)⟩
        have h3 : (P.1 == 0) = false := by rw [← hP]; exact h3
        refine br_yes hdl (br_not (fun h4 => ?_) (fun h4 => ?_))
        · have h4 : bkD d P.1 = false := by rw [← hP]; exact h4
          show _ = _
          rw [hPm (prI_1 h3 h4)]
        · have h4' : bkD d P.1 = true := by rw [← hP]; exact h4
          have hk := bkD_lt h4'
          have hk' : bsD d P.1 < cs.length := by omega
          rw [← hP] at hk hk'
          refine br_yes ⟨Int.natCast_nonneg _, Int.ofNat_lt.2 hk⟩ (br_bne (fun h5 => ?_) (fun h5 => br_yes ⟨Int.natCast_nonneg _, Int.ofNat_lt.2 hk'⟩ (br_yes ⟨Int.natCast_nonneg _, Int.ofNat_lt.2 hk'⟩ ?_)))
          · have h5 : ((atP d (bsD d P.1)).1 == P.2.1) = false := by rw [← hP]; exact h5
            show _ = _
            rw [hPm ((prI_2 h3 h4').trans h5)]
          · have h5 : ((atP d (bsD d P.1)).1 == P.2.1) = true := by rw [← hP]; exact h5
            refine next2 (by omega) _ ⟨?_, by rw [hn]; exact all_next hall ((prI_2 h3 h4').trans h5)⟩
            have hc := cnI_le d (preP s i 0) (bsD d P.1)
            rw [hP] at hk
            show cs.set (((bsD d (atP (mps (atC s i)) 0).1 : Nat) : Int)).toNat (IntKind.i64.wrap ((cs.getD (((bsD d (atP (mps (atC s i)) 0).1 : Nat) : Int)).toNat (edflt ki)).1 + 1), ()) = _
            rw [hP, hn, csI_one h3, Int.toNat_natCast, hm, csI_at d _ hk, wrap_id (n := ((cnI d (preP s i 0) (bsD d P.1) : Nat) : Int) + 1) (by omega) (by omega)]
      · show evP E72 G72 _ (lp72 6) (si72 x s d p b f n i 1 (atC s i) cs) (rkn72 _ _ 3 N 6 _)
        rw [bi72_1]
        have hn := pre_next s i (j := 1) (by omega)
        have hle := pre_len s i 1
        generalize hP : atP (mps (atC s i)) 1 = P at hn
        have hPm : prI d P = false → cntI d s = false := fun hq => cntI_f (i := i) (j := 1) (by omega) (by omega) (by rw [hP]; exact hq)
        refine br_intro (fun h3 => ?_) (fun h3 => ?_)
        · have h3 : (P.1 == 0) = true := by rw [← hP]; exact h3
          exact next2 (by omega) cs ⟨by rw [hn, csI_zero h3]; exact hm, by rw [hn]; exact all_next hall (prI_0 h3)⟩
        have h3 : (P.1 == 0) = false := by rw [← hP]; exact h3
        refine br_yes hdl (br_not (fun h4 => ?_) (fun h4 => ?_))
        · have h4 : bkD d P.1 = false := by rw [← hP]; exact h4
          show _ = _
          rw [hPm (prI_1 h3 h4)]
        · have h4' : bkD d P.1 = true := by rw [← hP]; exact h4
          have hk := bkD_lt h4'
          have hk' : bsD d P.1 < cs.length := by omega
          rw [← hP] at hk hk'
          refine br_yes ⟨Int.natCast_nonneg _, Int.ofNat_lt.2 hk⟩ (br_bne (fun h5 => ?_) (fun h5 => br_yes ⟨Int.natCast_nonneg _, Int.ofNat_lt.2 hk'⟩ (br_yes ⟨Int.natCast_nonneg _, Int.ofNat_lt.2 hk'⟩ ?_)))
          · have h5 : ((atP d (bsD d P.1)).1 == P.2.1) = false := by rw [← hP]; exact h5
            show _ = _
            rw [hPm ((prI_2 h3 h4').trans h5)]
          · have h5 : ((atP d (bsD d P.1)).1 == P.2.1) = true := by rw [← hP]; exact h5
            refine next2 (by omega) _ ⟨?_, by rw [hn]; exact all_next hall ((prI_2 h3 h4').trans h5)⟩
            have hc := cnI_le d (preP s i 1) (bsD d P.1)
            rw [hP] at hk
            show cs.set (((bsD d (atP (mps (atC s i)) 1).1 : Nat) : Int)).toNat (IntKind.i64.wrap ((cs.getD (((bsD d (atP (mps (atC s i)) 1).1 : Nat) : Int)).toNat (edflt ki)).1 + 1), ()) = _
            rw [hP, hn, csI_one h3, Int.toNat_natCast, hm, csI_at d _ hk, wrap_id (n := ((cnI d (preP s i 1) (bsD d P.1) : Nat) : Int) + 1) (by omega) (by omega)]
      · show evP E72 G72 _ (lp72 6) (si72 x s d p b f n i 2 (atC s i) cs) (rkn72 _ _ 3 N 6 _)
        rw [bi72_2]
        have hn := pre_next s i (j := 2) (by omega)
        have hle := pre_len s i 2
        generalize hP : atP (mps (atC s i)) 2 = P at hn
        have hPm : prI d P = false → cntI d s = false := fun hq => cntI_f (i := i) (j := 2) (by omega) (by omega) (by rw [hP]; exact hq)
        refine br_intro (fun h3 => ?_) (fun h3 => ?_)
        · have h3 : (P.1 == 0) = true := by rw [← hP]; exact h3
          exact next2 (by omega) cs ⟨by rw [hn, csI_zero h3]; exact hm, by rw [hn]; exact all_next hall (prI_0 h3)⟩
        have h3 : (P.1 == 0) = false := by rw [← hP]; exact h3
        refine br_yes hdl (br_not (fun h4 => ?_) (fun h4 => ?_))
        · have h4 : bkD d P.1 = false := by rw [← hP]; exact h4
          show _ = _
          rw [hPm (prI_1 h3 h4)]
        · have h4' : bkD d P.1 = true := by rw [← hP]; exact h4
          have hk := bkD_lt h4'
          have hk' : bsD d P.1 < cs.length := by omega
          rw [← hP] at hk hk'
          refine br_yes ⟨Int.natCast_nonneg _, Int.ofNat_lt.2 hk⟩ (br_bne (fun h5 => ?_) (fun h5 => br_yes ⟨Int.natCast_nonneg _, Int.ofNat_lt.2 hk'⟩ (br_yes ⟨Int.natCast_nonneg _, Int.ofNat_lt.2 hk'⟩ ?_)))
          · have h5 : ((atP d (bsD d P.1)).1 == P.2.1) = false := by rw [← hP]; exact h5
            show _ = _
            rw [hPm ((prI_2 h3 h4').trans h5)]
          · have h5 : ((atP d (bsD d P.1)).1 == P.2.1) = true := by rw [← hP]; exact h5
            refine next2 (by omega) _ ⟨?_, by rw [hn]; exact all_next hall ((prI_2 h3 h4').trans h5)⟩
            have hc := cnI_le d (preP s i 2) (bsD d P.1)
            rw [hP] at hk
            show cs.set (((bsD d (atP (mps (atC s i)) 2).1 : Nat) : Int)).toNat (IntKind.i64.wrap ((cs.getD (((bsD d (atP (mps (atC s i)) 2).1 : Nat) : Int)).toNat (edflt ki)).1 + 1), ()) = _
            rw [hP, hn, csI_one h3, Int.toNat_natCast, hm, csI_at d _ hk, wrap_id (n := ((cnI d (preP s i 2) (bsD d P.1) : Nat) : Int) + 1) (by omega) (by omega)]
      · show evP E72 G72 _ (lp72 6) (si72 x s d p b f n i 3 (atC s i) cs) (rkn72 _ _ 3 N 6 _)
        rw [bi72_3]
        have hn := pre_next s i (j := 3) (by omega)
        have hle := pre_len s i 3
        generalize hP : atP (mps (atC s i)) 3 = P at hn
        have hPm : prI d P = false → cntI d s = false := fun hq => cntI_f (i := i) (j := 3) (by omega) (by omega) (by rw [hP]; exact hq)
        refine br_intro (fun h3 => ?_) (fun h3 => ?_)
        · have h3 : (P.1 == 0) = true := by rw [← hP]; exact h3
          exact next2 (by omega) cs ⟨by rw [hn, csI_zero h3]; exact hm, by rw [hn]; exact all_next hall (prI_0 h3)⟩
        have h3 : (P.1 == 0) = false := by rw [← hP]; exact h3
        refine br_yes hdl (br_not (fun h4 => ?_) (fun h4 => ?_))
        · have h4 : bkD d P.1 = false := by rw [← hP]; exact h4
          show _ = _
          rw [hPm (prI_1 h3 h4)]
        · have h4' : bkD d P.1 = true := by rw [← hP]; exact h4
          have hk := bkD_lt h4'
          have hk' : bsD d P.1 < cs.length := by omega
          rw [← hP] at hk hk'
          refine br_yes ⟨Int.natCast_nonneg _, Int.ofNat_lt.2 hk⟩ (br_bne (fun h5 => ?_) (fun h5 => br_yes ⟨Int.natCast_nonneg _, Int.ofNat_lt.2 hk'⟩ (br_yes ⟨Int.natCast_nonneg _, Int.ofNat_lt.2 hk'⟩ ?_)))
          · have h5 : ((atP d (bsD d P.1)).1 == P.2.1) = false := by rw [← hP]; exact h5
            show _ = _
            rw [hPm ((prI_2 h3 h4').trans h5)]
          · have h5 : ((atP d (bsD d P.1)).1 == P.2.1) = true := by rw [← hP]; exact h5
            refine next2 (by omega) _ ⟨?_, by rw [hn]; exact all_next hall ((prI_2 h3 h4').trans h5)⟩
            have hc := cnI_le d (preP s i 3) (bsD d P.1)
            rw [hP] at hk
            show cs.set (((bsD d (atP (mps (atC s i)) 3).1 : Nat) : Int)).toNat (IntKind.i64.wrap ((cs.getD (((bsD d (atP (mps (atC s i)) 3).1 : Nat) : Int)).toNat (edflt ki)).1 + 1), ()) = _
            rw [hP, hn, csI_one h3, Int.toNat_natCast, hm, csI_at d _ hk, wrap_id (n := ((cnI d (preP s i 3) (bsD d P.1) : Nat) : Int) + 1) (by omega) (by omega)]
      · show evP E72 G72 _ (lp72 6) (si72 x s d p b f n i 4 (atC s i) cs) (rkn72 _ _ 3 N 6 _)
        rw [bi72_4]
        have hn := pre_next s i (j := 4) (by omega)
        have hle := pre_len s i 4
        generalize hP : atP (mps (atC s i)) 4 = P at hn
        have hPm : prI d P = false → cntI d s = false := fun hq => cntI_f (i := i) (j := 4) (by omega) (by omega) (by rw [hP]; exact hq)
        refine br_intro (fun h3 => ?_) (fun h3 => ?_)
        · have h3 : (P.1 == 0) = true := by rw [← hP]; exact h3
          exact next2 (by omega) cs ⟨by rw [hn, csI_zero h3]; exact hm, by rw [hn]; exact all_next hall (prI_0 h3)⟩
        have h3 : (P.1 == 0) = false := by rw [← hP]; exact h3
        refine br_yes hdl (br_not (fun h4 => ?_) (fun h4 => ?_))
        · have h4 : bkD d P.1 = false := by rw [← hP]; exact h4
          show _ = _
          rw [hPm (prI_1 h3 h4)]
        · have h4' : bkD d P.1 = true := by rw [← hP]; exact h4
          have hk := bkD_lt h4'
          have hk' : bsD d P.1 < cs.length := by omega
          rw [← hP] at hk hk'
          refine br_yes ⟨Int.natCast_nonneg _, Int.ofNat_lt.2 hk⟩ (br_bne (fun h5 => ?_) (fun h5 => br_yes ⟨Int.natCast_nonneg _, Int.ofNat_lt.2 hk'⟩ (br_yes ⟨Int.natCast_nonneg _, Int.ofNat_lt.2 hk'⟩ ?_)))
          · have h5 : ((atP d (bsD d P.1)).1 == P.2.1) = false := by rw [← hP]; exact h5
            show _ = _
            rw [hPm ((prI_2 h3 h4').trans h5)]
          · have h5 : ((atP d (bsD d P.1)).1 == P.2.1) = true := by rw [← hP]; exact h5
            refine next2 (by omega) _ ⟨?_, by rw [hn]; exact all_next hall ((prI_2 h3 h4').trans h5)⟩
            have hc := cnI_le d (preP s i 4) (bsD d P.1)
            rw [hP] at hk
            show cs.set (((bsD d (atP (mps (atC s i)) 4).1 : Nat) : Int)).toNat (IntKind.i64.wrap ((cs.getD (((bsD d (atP (mps (atC s i)) 4).1 : Nat) : Int)).toNat (edflt ki)).1 + 1), ()) = _
            rw [hP, hn, csI_one h3, Int.toNat_natCast, hm, csI_at d _ hk, wrap_id (n := ((cnI d (preP s i 4) (bsD d P.1) : Nat) : Int) + 1) (by omega) (by omega)]
      · show evP E72 G72 _ (lp72 6) (si72 x s d p b f n i 5 (atC s i) cs) (rkn72 _ _ 3 N 6 _)
        rw [bi72_5]
        have hn := pre_next s i (j := 5) (by omega)
        have hle := pre_len s i 5
        generalize hP : atP (mps (atC s i)) 5 = P at hn
        have hPm : prI d P = false → cntI d s = false := fun hq => cntI_f (i := i) (j := 5) (by omega) (by omega) (by rw [hP]; exact hq)
        refine br_intro (fun h3 => ?_) (fun h3 => ?_)
        · have h3 : (P.1 == 0) = true := by rw [← hP]; exact h3
          exact next2 (by omega) cs ⟨by rw [hn, csI_zero h3]; exact hm, by rw [hn]; exact all_next hall (prI_0 h3)⟩
        have h3 : (P.1 == 0) = false := by rw [← hP]; exact h3
        refine br_yes hdl (br_not (fun h4 => ?_) (fun h4 => ?_))
        · have h4 : bkD d P.1 = false := by rw [← hP]; exact h4
          show _ = _
          rw [hPm (prI_1 h3 h4)]
        · have h4' : bkD d P.1 = true := by rw [← hP]; exact h4
          have hk := bkD_lt h4'
          have hk' : bsD d P.1 < cs.length := by omega
          rw [← hP] at hk hk'
          refine br_yes ⟨Int.natCast_nonneg _, Int.ofNat_lt.2 hk⟩ (br_bne (fun h5 => ?_) (fun h5 => br_yes ⟨Int.natCast_nonneg _, Int.ofNat_lt.2 hk'⟩ (br_yes ⟨Int.natCast_nonneg _, Int.ofNat_lt.2 hk'⟩ ?_)))
          · have h5 : ((atP d (bsD d P.1)).1 == P.2.1) = false := by rw [← hP]; exact h5
            show _ = _
            rw [hPm ((prI_2 h3 h4').trans h5)]
          · have h5 : ((atP d (bsD d P.1)).1 == P.2.1) = true := by rw [← hP]; exact h5
            refine next2 (by omega) _ ⟨?_, by rw [hn]; exact all_next hall ((prI_2 h3 h4').trans h5)⟩
            have hc := cnI_le d (preP s i 5) (bsD d P.1)
            rw [hP] at hk
            show cs.set (((bsD d (atP (mps (atC s i)) 5).1 : Nat) : Int)).toNat (IntKind.i64.wrap ((cs.getD (((bsD d (atP (mps (atC s i)) 5).1 : Nat) : Int)).toNat (edflt ki)).1 + 1), ()) = _
            rw [hP, hn, csI_one h3, Int.toNat_natCast, hm, csI_at d _ hk, wrap_id (n := ((cnI d (preP s i 5) (bsD d P.1) : Nat) : Int) + 1) (by omega) (by omega)]
      · show evP E72 G72 _ (lp72 6) (si72 x s d p b f n i 6 (atC s i) cs) (rkn72 _ _ 3 N 6 _)
        rw [bi72_6]
        have hn := pre_next s i (j := 6) (by omega)
        have hle := pre_len s i 6
        generalize hP : atP (mps (atC s i)) 6 = P at hn
        have hPm : prI d P = false → cntI d s = false := fun hq => cntI_f (i := i) (j := 6) (by omega) (by omega) (by rw [hP]; exact hq)
        refine br_intro (fun h3 => ?_) (fun h3 => ?_)
        · have h3 : (P.1 == 0) = true := by rw [← hP]; exact h3
          exact next2 (by omega) cs ⟨by rw [hn, csI_zero h3]; exact hm, by rw [hn]; exact all_next hall (prI_0 h3)⟩
        have h3 : (P.1 == 0) = false := by rw [← hP]; exact h3
        refine br_yes hdl (br_not (fun h4 => ?_) (fun h4 => ?_))
        · have h4 : bkD d P.1 = false := by rw [← hP]; exact h4
          show _ = _
          rw [hPm (prI_1 h3 h4)]
        · have h4' : bkD d P.1 = true := by rw [← hP]; exact h4
          have hk := bkD_lt h4'
          have hk' : bsD d P.1 < cs.length := by omega
          rw [← hP] at hk hk'
          refine br_yes ⟨Int.natCast_nonneg _, Int.ofNat_lt.2 hk⟩ (br_bne (fun h5 => ?_) (fun h5 => br_yes ⟨Int.natCast_nonneg _, Int.ofNat_lt.2 hk'⟩ (br_yes ⟨Int.natCast_nonneg _, Int.ofNat_lt.2 hk'⟩ ?_)))
          · have h5 : ((atP d (bsD d P.1)).1 == P.2.1) = false := by rw [← hP]; exact h5
            show _ = _
            rw [hPm ((prI_2 h3 h4').trans h5)]
          · have h5 : ((atP d (bsD d P.1)).1 == P.2.1) = true := by rw [← hP]; exact h5
            refine next2 (by omega) _ ⟨?_, by rw [hn]; exact all_next hall ((prI_2 h3 h4').trans h5)⟩
            have hc := cnI_le d (preP s i 6) (bsD d P.1)
            rw [hP] at hk
            show cs.set (((bsD d (atP (mps (atC s i)) 6).1 : Nat) : Int)).toNat (IntKind.i64.wrap ((cs.getD (((bsD d (atP (mps (atC s i)) 6).1 : Nat) : Int)).toNat (edflt ki)).1 + 1), ()) = _
            rw [hP, hn, csI_one h3, Int.toNat_natCast, hm, csI_at d _ hk, wrap_id (n := ((cnI d (preP s i 6) (bsD d P.1) : Nat) : Int) + 1) (by omega) (by omega)]
      · show evP E72 G72 _ (lp72 6) (si72 x s d p b f n i 7 (atC s i) cs) (rkn72 _ _ 3 N 6 _)
        rw [bi72_7]
        have hn := pre_next s i (j := 7) (by omega)
        have hle := pre_len s i 7
        generalize hP : atP (mps (atC s i)) 7 = P at hn
        have hPm : prI d P = false → cntI d s = false := fun hq => cntI_f (i := i) (j := 7) (by omega) (by omega) (by rw [hP]; exact hq)
        refine br_intro (fun h3 => ?_) (fun h3 => ?_)
        · have h3 : (P.1 == 0) = true := by rw [← hP]; exact h3
          exact next2 (by omega) cs ⟨by rw [hn, csI_zero h3]; exact hm, by rw [hn]; exact all_next hall (prI_0 h3)⟩
        have h3 : (P.1 == 0) = false := by rw [← hP]; exact h3
        refine br_yes hdl (br_not (fun h4 => ?_) (fun h4 => ?_))
        · have h4 : bkD d P.1 = false := by rw [← hP]; exact h4
          show _ = _
          rw [hPm (prI_1 h3 h4)]
        · have h4' : bkD d P.1 = true := by rw [← hP]; exact h4
          have hk := bkD_lt h4'
          have hk' : bsD d P.1 < cs.length := by omega
          rw [← hP] at hk hk'
          refine br_yes ⟨Int.natCast_nonneg _, Int.ofNat_lt.2 hk⟩ (br_bne (fun h5 => ?_) (fun h5 => br_yes ⟨Int.natCast_nonneg _, Int.ofNat_lt.2 hk'⟩ (br_yes ⟨Int.natCast_nonneg _, Int.ofNat_lt.2 hk'⟩ ?_)))
          · have h5 : ((atP d (bsD d P.1)).1 == P.2.1) = false := by rw [← hP]; exact h5
            show _ = _
            rw [hPm ((prI_2 h3 h4').trans h5)]
          · have h5 : ((atP d (bsD d P.1)).1 == P.2.1) = true := by rw [← hP]; exact h5
            refine next2 (by omega) _ ⟨?_, by rw [hn]; exact all_next hall ((prI_2 h3 h4').trans h5)⟩
            have hc := cnI_le d (preP s i 7) (bsD d P.1)
            rw [hP] at hk
            show cs.set (((bsD d (atP (mps (atC s i)) 7).1 : Nat) : Int)).toNat (IntKind.i64.wrap ((cs.getD (((bsD d (atP (mps (atC s i)) 7).1 : Nat) : Int)).toNat (edflt ki)).1 + 1), ()) = _
            rw [hP, hn, csI_one h3, Int.toNat_natCast, hm, csI_at d _ hk, wrap_id (n := ((cnI d (preP s i 7) (bsD d P.1) : Nat) : Int) + 1) (by omega) (by omega)]
      · show evP E72 G72 _ (lp72 6) (si72 x s d p b f n i 8 (atC s i) cs) (rkn72 _ _ 3 N 6 _)
        rw [bi72_8, wrap_id (n := (i : Int) + 1) (by omega) (by omega)]
        exact next (by omega) cs ⟨by rw [← pre_end (by omega)]; exact hm, by rw [← pre_end (by omega)]; exact hall⟩
    · have e : i = s.length := by omega
      rw [e, pre_all] at hm hall
      have hcl : cs.length = d.length := by rw [hm, csI_len]
      have hc : cntI d s = allB d.length fun k => (atP d k).2.2.1 == (cnI d (ptsOf s) k : Int) := by
        unfold cntI
        rw [hall, Bool.true_and]
      refine loopAll okf72 hg72 (fun i => so72 d i cs) d.length (fun k => (atP d k).2.2.1 == (cnI d (ptsOf s) k : Int)) (by omega) (fun N2 k hk hw next2 fails2 done2 => ?_)
      show evP E72 G72 _ (lp72 16) (so72 d k cs) (rk72 _ _ 16 _)
      rw [bo72, hw, Int.toNat_natCast]
      refine br_dec (fun h3 => br_yes ⟨by omega, h3⟩ (br_yes ⟨by omega, by omega⟩ ?_)) (fun h3 => ?_)
      · have hcs : cs.getD k (edflt ki) = ((cnI d (ptsOf s) k : Int), ()) := by rw [hm, csI_at d _ (by omega)]
        rw [hcs]
        refine br_bne (fun h4 => ?_) (fun h4 => next2 (by omega) h4)
        show _ = _
        rw [hc, fails2 (by omega) h4]
      · show _ = _
        rw [hc, done2 (by omega)]
  · exact h.elim
end Go.Proofs.YtljilcingbohkabDoor.Ev

namespace Go.Proofs.YtljilcingbohkabDoor.Ev
open Go
set_option linter.unusedVariables false
set_option linter.unusedSimpArgs false
set_option maxRecDepth 100000
set_option maxHeartbeats 1000000
theorem ddt_mono {d : List (Elem k3)} (h : ddtOk d = true) : ∀ (j i : Nat), i < j → j < d.length → adD d i < adD d j
  | 0, i, hi, _ => absurd hi (by omega)
  | j + 1, i, hi, hj => by
    have h2 := ddt_step h hj
    by_cases e : i = j
    · rw [e]; exact h2
    · have := ddt_mono h j i (by omega) (by omega)
      omega
theorem bs_lnD {d : List (Elem k3)} (h : ddtOk d = true) {t : Int} (h0 : 0 ≤ t) (h1 : t ≤ 1000000) : bsD d t = lnD d t := by
  have hc : ∀ i, i < d.length → decide (IntKind.i64.wrap ((atP d i).2.1 - t) < 0) = decide ((atP d i).2.1 < t) := by
    intro i hi
    have he := (ddt_ent h hi).1
    have hw : IntKind.i64.wrap (adD d i - t) = adD d i - t := wrap_id (by omega) (by omega)
    show decide (IntKind.i64.wrap (adD d i - t) < 0) = decide (adD d i < t)
    rw [hw]
    apply decide_eq_decide.2
    omega
  unfold bsD lnD
  rw [bsf_ln fun a b hab hb hp => ?_]
  · exact ln_congr hc
  · rw [hc b hb] at hp
    rw [hc a (by omega)]
    by_cases e : a = b
    · subst e; exact hp
    · have := ddt_mono h b a (by omega) hb
      have hp : adD d b < t := of_decide_eq_true hp
      exact decide_eq_true (show adD d a < t by omega)
theorem bk_okD {d : List (Elem k3)} (h : ddtOk d = true) {t : Int} (h0 : 0 ≤ t) (h1 : t ≤ 1000000) : bkD d t = okD d t := by
  unfold bkD okD
  rw [bs_lnD h h0 h1]
  by_cases hk : lnD d t < d.length
  · have he := (ddt_ent h hk).1
    have hw : IntKind.i64.wrap (adD d (lnD d t) - t) = adD d (lnD d t) - t := wrap_id (by omega) (by omega)
    show (decide (lnD d t < d.length) && (IntKind.i64.wrap (adD d (lnD d t) - t) == 0)) = (decide (lnD d t < d.length) && (adD d (lnD d t) == t))
    rw [hw, Bool.eq_iff_iff]
    simp only [Bool.and_eq_true, beq_iff_eq, decide_eq_true_eq]
    omega
  · rw [decide_eq_false hk]
    rfl
def adP (p : Elem k3) : Int := p.1
theorem pOk_rng {p : Elem k3} (h : pOk p = true) : 0 ≤ adP p ∧ adP p ≤ 120 := (ptr_range h).1
theorem pr_sum {d : List (Elem k3)} (h : ddtOk d = true) {p : Elem k3} (hp : pOk p = true) : prI d p = sumK d p := by
  have hr := pOk_rng hp
  cases h0 : p.1 == 0 with
  | true =>
    rw [prI_0 h0, sumK_3]
    have : adP p = 0 := by have := eq_of_beq h0; exact this
    exact decide_eq_false (show ¬ adP p > 0 by omega)
  | false =>
    have hn : adP p ≠ 0 := beq_eq_false_iff_ne.1 h0
    have hg : decide (p.1 > 0) = true := decide_eq_true (show adP p > 0 by omega)
    have hb : bkD d p.1 = okD d p.1 := bk_okD (t := adP p) h hr.1 (by omega)
    have hb2 : bsD d p.1 = lnD d p.1 := bs_lnD (t := adP p) h hr.1 (by omega)
    cases hk : okD d p.1 with
    | false => rw [prI_1 h0 (hb.trans hk), sumK_1 hg hk]
    | true => rw [prI_2 h0 (hb.trans hk), sumK_2 hg hk, hb2]
theorem okD_at {d : List (Elem k3)} {t : Int} (h : okD d t = true) : adD d (lnD d t) = t := by
  unfold okD at h
  rw [Bool.and_eq_true, beq_iff_eq] at h
  exact h.2
theorem lnD_uniq {d : List (Elem k3)} (h : ddtOk d = true) {k : Nat} (hk : k < d.length) : lnD d (adD d k) = k := by
  unfold lnD
  refine ln_at (fun j hj => ?_) hk ?_
  · exact decide_eq_true (ddt_mono h k j hj hk)
  · exact decide_eq_false (show ¬ adD d k < adD d k by omega)
/-- A pointer that is found points at one entry. -/
theorem one_k {d : List (Elem k3)} (h : ddtOk d = true) {p : Elem k3} (hp : pOk p = true) (hs : sumK d p = true) {k : Nat} (hk : k < d.length) :
    (p.1 != 0 && (bsD d p.1 == k)) = (p.1 == adD d k && decide (adD d k > 0)) := by
  have hr := pOk_rng hp
  have he := (ddt_ent h hk).1
  rw [decide_eq_true (show adD d k > 0 by omega), Bool.and_true]
  cases h0 : p.1 == 0 with
  | true =>
    have e0 : adP p = 0 := eq_of_beq h0
    have : (p.1 == adD d k) = false := beq_eq_false_iff_ne.2 (show adP p ≠ adD d k by omega)
    rw [this]
    unfold bne
    rw [h0]
    rfl
  | false =>
    have hn : adP p ≠ 0 := beq_eq_false_iff_ne.1 h0
    have hg : decide (p.1 > 0) = true := decide_eq_true (show adP p > 0 by omega)
    have ho : okD d p.1 = true := by
      cases hk : okD d p.1 with
      | true => rfl
      | false => rw [sumK_1 hg hk] at hs; cases hs
    have hb : bsD d p.1 = lnD d p.1 := bs_lnD (t := adP p) h hr.1 (by omega)
    unfold bne
    rw [h0, hb, Bool.not_false, Bool.true_and, Bool.eq_iff_iff, beq_iff_eq, beq_iff_eq]
    constructor
    · intro e
      have := okD_at ho
      rw [e] at this
      exact this.symm
    · intro e
      rw [show p.1 = adD d k from e]
      exact lnD_uniq h hk
theorem countP_cong {α : Type} {f g : α → Bool} : ∀ {l : List α}, (∀ a ∈ l, f a = g a) → l.countP f = l.countP g
  | [], _ => rfl
  | a :: l, h => by
    rw [List.countP_cons, List.countP_cons, h a (by simp), countP_cong fun b hb => h b (by simp [hb])]
theorem all_cong {α : Type} {f g : α → Bool} : ∀ {l : List α}, (∀ a ∈ l, f a = g a) → l.all f = l.all g
  | [], _ => rfl
  | a :: l, h => by
    rw [List.all_cons, List.all_cons, h a (by simp), all_cong fun b hb => h b (by simp [hb])]
theorem cn_ref {d ps : List (Elem k3)} (h : ddtOk d = true) (hp : ∀ p ∈ ps, pOk p = true) (hs : ps.all (sumK d) = true) {k : Nat} (hk : k < d.length) : cnI d ps k = refP ps (adD d k) := by
  unfold cnI refP
  rw [List.all_eq_true] at hs
  exact countP_cong fun p hpm => one_k h (hp p hpm) (hs p hpm) hk
def sumN' (n : Nat) (f : Nat → Int) : Int := ((List.range n).map f).sum
theorem sumN_succ (n : Nat) (f : Nat → Int) : sumN' (n + 1) f = sumN' n f + f n := by
  unfold sumN'
  rw [List.range_succ, List.map_append, List.sum_append]
  simp
theorem sumN_congr {n : Nat} {f g : Nat → Int} (h : ∀ k, k < n → f k = g k) : sumN' n f = sumN' n g := by
  unfold sumN'
  rw [List.map_congr_left fun k hk => h k (by simpa using hk)]
theorem sumN_add (f g : Nat → Int) : ∀ n, sumN' n (fun k => f k + g k) = sumN' n f + sumN' n g
  | 0 => rfl
  | n + 1 => by
    rw [sumN_succ, sumN_succ, sumN_succ, sumN_add f g n]
    omega
theorem sumN_zero : ∀ n, sumN' n (fun _ => 0) = 0
  | 0 => rfl
  | n + 1 => by rw [sumN_succ, sumN_zero n]; rfl
theorem sumN_ind (k0 : Nat) : ∀ n, sumN' n (fun k => if k = k0 then 1 else 0) = if k0 < n then 1 else 0
  | 0 => rfl
  | n + 1 => by
    rw [sumN_succ, sumN_ind k0 n]
    by_cases h1 : n = k0
    · rw [if_pos h1, if_neg (by omega), if_pos (by omega)]
      rfl
    · rw [if_neg h1]
      by_cases h2 : k0 < n
      · rw [if_pos h2, if_pos (by omega)]
        rfl
      · rw [if_neg h2, if_neg (by omega)]
        rfl
theorem allC_sum : ∀ (d : List (Elem k3)), allC d = sumN' d.length (cnD d) := by
  intro d
  unfold allC sumN'
  congr 1
  refine List.ext_getElem (by simp) fun k h1 h2 => ?_
  rw [List.getElem_map, List.getElem_map, List.getElem_range]
  unfold cnD atP
  rw [List.getD_eq_getElem?_getD, List.getElem?_eq_getElem (by simpa using h1)]
  rfl
theorem ref_all {d : List (Elem k3)} (h : ddtOk d = true) : ∀ (ps : List (Elem k3)), (∀ p ∈ ps, pOk p = true) → ps.all (sumK d) = true → sumN' d.length (fun k => (refP ps (adD d k) : Int)) = liveP ps
  | [], _, _ => by
    show sumN' d.length (fun _ => 0) = 0
    exact sumN_zero _
  | p :: ps, hp, hs => by
    rw [List.all_cons, Bool.and_eq_true] at hs
    have ih := ref_all h ps (fun q hq => hp q (by simp [hq])) hs.2
    have hpp := hp p (by simp)
    have hr := pOk_rng hpp
    have e1 : ∀ k, (refP (p :: ps) (adD d k) : Int) = (refP ps (adD d k) : Int) + if (p.1 == adD d k && decide (adD d k > 0)) = true then 1 else 0 := by
      intro k
      unfold refP
      rw [List.countP_cons]
      split <;> simp
    have e2 : (liveP (p :: ps) : Int) = (liveP ps : Int) + if decide (p.1 > 0) = true then 1 else 0 := by
      unfold liveP
      rw [List.countP_cons]
      split <;> simp
    rw [sumN_congr fun k hk => e1 k, sumN_add, ih, e2]
    congr 1
    by_cases hg : adP p > 0
    · have hg' : decide (p.1 > 0) = true := decide_eq_true hg
      have ho : okD d p.1 = true := by
        cases hk : okD d p.1 with
        | true => rfl
        | false => rw [sumK_1 hg' hk] at hs; cases hs.1
      have e3 : sumN' d.length (fun k => if (p.1 == adD d k && decide (adD d k > 0)) = true then 1 else 0) = sumN' d.length (fun k => if k = lnD d p.1 then 1 else 0) := by
        refine sumN_congr fun k hk => ?_
        have he := (ddt_ent h hk).1
        rw [decide_eq_true (show adD d k > 0 by omega), Bool.and_true]
        by_cases e : k = lnD d p.1
        · rw [if_pos e, if_pos]
          rw [beq_iff_eq, e]
          exact (okD_at ho).symm
        · rw [if_neg e, if_neg]
          rw [beq_iff_eq]
          intro e'
          exact e (by rw [show p.1 = adD d k from e']; exact (lnD_uniq h hk).symm)
      rw [e3, sumN_ind, if_pos (okD_lt ho), if_pos hg']
    · have hg' : decide (p.1 > 0) = false := decide_eq_false hg
      have e3 : sumN' d.length (fun k => if (p.1 == adD d k && decide (adD d k > 0)) = true then 1 else 0) = sumN' d.length (fun _ => 0) := by
        refine sumN_congr fun k hk => ?_
        have he := (ddt_ent h hk).1
        rw [show (p.1 == adD d k) = false from beq_eq_false_iff_ne.2 (show adP p ≠ adD d k by omega)]
        rfl
      rw [e3, sumN_zero, hg']
      rfl
theorem beq_symm (a b : Int) : (a == b) = (b == a) := by
  rw [Bool.eq_iff_iff, beq_iff_eq, beq_iff_eq]
  exact ⟨Eq.symm, Eq.symm⟩
/-- Both ways of counting say the same. -/
theorem cnt_eqv {d : List (Elem k3)} {s : List (Elem kc)} (h : ddtOk d = true) (hp : ∀ p ∈ ptsOf s, pOk p = true) : cntI d s = (cntS d s && (ptsOf s).all (sumK d)) := by
  have e1 : (ptsOf s).all (prI d) = (ptsOf s).all (sumK d) := all_cong fun p hpm => pr_sum h (hp p hpm)
  unfold cntI
  rw [e1]
  cases hs : (ptsOf s).all (sumK d) with
  | false => rw [Bool.and_false]; rfl
  | true =>
    rw [Bool.true_and, Bool.and_true]
    have e2 : (allB d.length fun k => (atP d k).2.2.1 == (cnI d (ptsOf s) k : Int)) = allB d.length (cntK d s) := by
      refine allB_congr fun k hk => ?_
      unfold cntK
      rw [cn_ref h hp hs hk]
      exact beq_symm _ _
    rw [e2]
    unfold cntS
    cases hc : allB d.length (cntK d s) with
    | false => rfl
    | true =>
      rw [Bool.true_and]
      have e3 : allC d = liveP (ptsOf s) := by
        rw [allC_sum, ← ref_all h (ptsOf s) hp hs]
        refine sumN_congr fun k hk => ?_
        have := allB_at hc hk
        unfold cntK at this
        exact (eq_of_beq this).symm
      rw [e3]
      simp
end Go.Proofs.YtljilcingbohkabDoor.Ev

namespace Go.Proofs.YtljilcingbohkabDoor.Ev
open Go
set_option linter.unusedVariables false
set_option linter.unusedSimpArgs false
set_option maxRecDepth 100000
set_option maxHeartbeats 1000000
def g68 : G1
  | [.agg us], [], k => match elemOf kc us with
    | some e => br (smC e) (k ⟨.val (.bool (!setV e)), [], []⟩) False
    | none => False
  | _, _, _ => False
def smCs (s : List (Elem kc)) : Bool := decide (s.length ≤ 1048576) && s.all smC
def g121 : G1
  | [.rsl cx xs0, .fn 68 []], [], k => match castE kc cx xs0 with
    | some xs => br (smCs xs) (k ⟨.val (.int .i64 (fIx xs.length fun i => !setV (atC xs i))), [], []⟩) False
    | none => False
  | _, _, _ => False
def g67 : G1
  | [.rsl cx xs0, .fn 68 []], [], k => match castE kc cx xs0 with
    | some xs => br (smCs xs) (k ⟨.val (.bool (anyB xs.length fun i => !setV (atC xs i))), [], []⟩) False
    | none => False
  | _, _, _ => False
def coreOk (x : Int) (s : List (Elem kc)) (d p : List (Elem k3)) (f : List (Elem ki)) (n : Int) : Bool :=
  (decide (0 ≤ x) && decide (x ≤ 1000000)) && (ddtOk d && (decide ((p.length : Int) ≤ 8) && (plcs f && ((decide (0 ≤ n) && decide (n ≤ 8)) && ((allB s.length fun i => setV (atC s i)) && ((allB p.length fun i => rOk (atP p i)) && (bookOk (bkS s) && (cntS d s && (ptsOf s).all (sumK d)))))))))
def smB' (c : Co) : Bool := smCo c && smCs c.2.1
def g13 : G1
  | [.agg us], [], k => match coreOf us with
    | some c => br (smB' c) (k ⟨.val (.bool (coreOk c.1 c.2.1 c.2.2.1 c.2.2.2.1 c.2.2.2.2.2.1 c.2.2.2.2.2.2)), [], []⟩) False
    | none => False
  | _, _, _ => False
theorem cok_x {x : Int} {s : List (Elem kc)} {d p : List (Elem k3)} {f : List (Elem ki)} {n : Int} (h : (decide (0 ≤ x) && decide (x ≤ 1000000)) = false) : coreOk x s d p f n = false := by
  unfold coreOk
  rw [h]
  simp only [Bool.and_false, Bool.false_and]
theorem cok_d {x : Int} {s : List (Elem kc)} {d p : List (Elem k3)} {f : List (Elem ki)} {n : Int} (h : ddtOk d = false) : coreOk x s d p f n = false := by
  unfold coreOk
  rw [h]
  simp only [Bool.and_false, Bool.false_and]
theorem cok_p {x : Int} {s : List (Elem kc)} {d p : List (Elem k3)} {f : List (Elem ki)} {n : Int} (h : decide ((p.length : Int) ≤ 8) = false) : coreOk x s d p f n = false := by
  unfold coreOk
  rw [h]
  simp only [Bool.and_false, Bool.false_and]
theorem cok_f {x : Int} {s : List (Elem kc)} {d p : List (Elem k3)} {f : List (Elem ki)} {n : Int} (h : plcs f = false) : coreOk x s d p f n = false := by
  unfold coreOk
  rw [h]
  simp only [Bool.and_false, Bool.false_and]
theorem cok_n {x : Int} {s : List (Elem kc)} {d p : List (Elem k3)} {f : List (Elem ki)} {n : Int} (h : (decide (0 ≤ n) && decide (n ≤ 8)) = false) : coreOk x s d p f n = false := by
  unfold coreOk
  rw [h]
  simp only [Bool.and_false, Bool.false_and]
theorem cok_s {x : Int} {s : List (Elem kc)} {d p : List (Elem k3)} {f : List (Elem ki)} {n : Int} (h : (allB s.length fun i => setV (atC s i)) = false) : coreOk x s d p f n = false := by
  unfold coreOk
  rw [h]
  simp only [Bool.and_false, Bool.false_and]
theorem cok_r {x : Int} {s : List (Elem kc)} {d p : List (Elem k3)} {f : List (Elem ki)} {n : Int} (h : (allB p.length fun i => rOk (atP p i)) = false) : coreOk x s d p f n = false := by
  unfold coreOk
  rw [h]
  simp only [Bool.and_false, Bool.false_and]
theorem cok_b {x : Int} {s : List (Elem kc)} {d p : List (Elem k3)} {f : List (Elem ki)} {n : Int} (h : bookOk (bkS s) = false) : coreOk x s d p f n = false := by
  unfold coreOk
  rw [h]
  simp only [Bool.and_false, Bool.false_and]
theorem cok_c {x : Int} {s : List (Elem kc)} {d p : List (Elem k3)} {f : List (Elem ki)} {n : Int} (h : cntS d s = false) : coreOk x s d p f n = false := by
  unfold coreOk
  rw [h]
  simp only [Bool.and_false, Bool.false_and]
theorem cok_u {x : Int} {s : List (Elem kc)} {d p : List (Elem k3)} {f : List (Elem ki)} {n : Int} (h : (ptsOf s).all (sumK d) = false) : coreOk x s d p f n = false := by
  unfold coreOk
  rw [h]
  simp only [Bool.and_false, Bool.false_and]
theorem cok_t {x : Int} {s : List (Elem kc)} {d p : List (Elem k3)} {f : List (Elem ki)} {n : Int} (h1 : (decide (0 ≤ x) && decide (x ≤ 1000000)) = true) (h2 : ddtOk d = true) (h3 : decide ((p.length : Int) ≤ 8) = true) (h4 : plcs f = true) (h5 : (decide (0 ≤ n) && decide (n ≤ 8)) = true) (h6 : (allB s.length fun i => setV (atC s i)) = true) (h7 : (allB p.length fun i => rOk (atP p i)) = true) (h8 : bookOk (bkS s) = true) : coreOk x s d p f n = (cntS d s && (ptsOf s).all (sumK d)) := by
  unfold coreOk
  rw [h1, h2, h3, h4, h5, h6, h7, h8]
  simp only [Bool.true_and]
theorem smCs_len {s : List (Elem kc)} (h : smCs s = true) : s.length ≤ 1048576 := by
  unfold smCs at h
  rw [Bool.and_eq_true] at h
  exact of_decide_eq_true h.1
theorem smCs_at {s : List (Elem kc)} (h : smCs s = true) {i : Nat} (hi : i < s.length) : smC (atC s i) = true := by
  unfold smCs at h
  rw [Bool.and_eq_true] at h
  exact all_at h.2 (edflt kc) hi
theorem smB_bk {s : List (Elem kc)} (h : smCs s = true) : smB (bkS s) = true := by
  have hl := smCs_len h
  unfold smCs at h
  rw [Bool.and_eq_true, List.all_eq_true] at h
  unfold smB bkS
  rw [Bool.and_eq_true, decide_eq_true_eq, List.length_map, List.all_eq_true]
  refine ⟨hl, fun e he => ?_⟩
  obtain ⟨c, hc, rfl⟩ := List.mem_map.1 he
  have := h.2 c hc
  unfold smC at this
  rw [Bool.and_eq_true] at this
  exact this.1
theorem rng_l {x a b : Int} (h : x < a) : (decide (a ≤ x) && decide (x ≤ b)) = false := by rw [decide_eq_false (show ¬ a ≤ x by omega)]; rfl
theorem rng_h {x a b : Int} (h : x > b) : (decide (a ≤ x) && decide (x ≤ b)) = false := by rw [decide_eq_false (show ¬ x ≤ b by omega), Bool.and_false]
theorem rng_t {x a b : Int} (h : ¬ x < a) (h2 : ¬ x > b) : (decide (a ≤ x) && decide (x ≤ b)) = true := by rw [decide_eq_true (show a ≤ x by omega), decide_eq_true (show x ≤ b by omega)]; rfl
theorem rng_f {x a b : Int} (h : (decide (a ≤ x) && decide (x ≤ b)) = false) : x < a ∨ x > b := by
  rw [Bool.and_eq_false_iff, decide_eq_false_iff_not, decide_eq_false_iff_not] at h
  omega
theorem rng_i {x a b : Int} (h : (decide (a ≤ x) && decide (x ≤ b)) = true) : a ≤ x ∧ x ≤ b := by
  rw [Bool.and_eq_true, decide_eq_true_eq, decide_eq_true_eq] at h
  exact h
noncomputable def E68 : Env := Ef.of Tryd.f68
noncomputable def G68 : Gk := gk [(69, g52)]
noncomputable def lp68 (n : Nat) : Code := (loopOf n (codeOf Tryd.f68)).getD .skip
noncomputable def ct68 (L : Lp) (R : Option Res → Prop) (n : Nat) : Kt := contOf E68 G68 L n (codeOf Tryd.f68) (endK E68 Tryd.f68.results.toList R)
noncomputable def rk68 (L : Lp) (R : Option Res → Prop) (n : Nat) (N : St → Prop) : Kt := rk (jof E68 (lp68 n)) N (ct68 L R n)
noncomputable def rkn68 (L : Lp) (R : Option Res → Prop) (n : Nat) (N : St → Prop) (m : Nat) (N2 : St → Prop) : Kt := rk (jof E68 (lp68 m)) N2 (contOf E68 G68 L m (lp68 n) (rk68 L R n N))
noncomputable def LOOPN68 (L : Lp) (R : Option Res → Prop) (n : Nat) (N : St → Prop) (m : Nat) (st : St) : Prop := L (lp68 m) st (contOf E68 G68 L m (lp68 n) (rk68 L R n N))
noncomputable def LOOP68 (L : Lp) (R : Option Res → Prop) (n : Nat) (st : St) : Prop := L (lp68 n) st (ct68 L R n)
theorem hg68 : HG Tryd.prog G68 := (hg_cons h69 hg_nil)
theorem okf68 : Ok Tryd.prog E68 := okf.of Tryd.f68
theorem e68 (L : Lp) (R : Option Res → Prop) (e : Elem kc) : (bodyP Ef G68 L Tryd.f68 [.agg (setK e)] [] R) = (
    br (smC e) (R (some { av := vB !setV e, obs := [], outs := [] })) False) := by kernel_rfl
theorem h68 : G1Ok Tryd.prog 68 g68 := by
  intro args obs k h
  unfold g68 at h
  split at h
  · rename_i k us
    split at h
    rotate_left
    · exact h.elim
    rename_i e he
    obtain rfl := elemOf_inv he
    obtain ⟨hs, h⟩ := br_and h
    refine ⟨_, ctr_fn okf hg68 Tryd.func68 (by kernel_rfl) (by kernel_rfl) (by kernel_rfl) fun C => ?_, h⟩
    show bodyP Ef G68 _ Tryd.f68 [.agg (setK e)] [] _
    rw [e68]
    exact br_t hs rfl
  · exact h.elim
noncomputable def E121 : Env := Ef.of Tryd.f121
noncomputable def G121 : Gk := gk [(68, g68)]
noncomputable def lp121 (n : Nat) : Code := (loopOf n (codeOf Tryd.f121)).getD .skip
noncomputable def ct121 (L : Lp) (R : Option Res → Prop) (n : Nat) : Kt := contOf E121 G121 L n (codeOf Tryd.f121) (endK E121 Tryd.f121.results.toList R)
noncomputable def rk121 (L : Lp) (R : Option Res → Prop) (n : Nat) (N : St → Prop) : Kt := rk (jof E121 (lp121 n)) N (ct121 L R n)
noncomputable def rkn121 (L : Lp) (R : Option Res → Prop) (n : Nat) (N : St → Prop) (m : Nat) (N2 : St → Prop) : Kt := rk (jof E121 (lp121 m)) N2 (contOf E121 G121 L m (lp121 n) (rk121 L R n N))
noncomputable def LOOPN121 (L : Lp) (R : Option Res → Prop) (n : Nat) (N : St → Prop) (m : Nat) (st : St) : Prop := L (lp121 m) st (contOf E121 G121 L m (lp121 n) (rk121 L R n N))
noncomputable def LOOP121 (L : Lp) (R : Option Res → Prop) (n : Nat) (st : St) : Prop := L (lp121 n) st (ct121 L R n)
theorem hg121 : HG Tryd.prog G121 := (hg_cons h68 hg_nil)
theorem okf121 : Ok Tryd.prog E121 := okf.of Tryd.f121
theorem e121 (L : Lp) (R : Option Res → Prop) (xs : List (Elem kc)) : (bodyP Ef G121 L Tryd.f121 [.rsl kc xs, .fn 68 []] [] R) = (
    LOOP121 L R 2 { tm := [AV.rsl kc xs, AV.fn 68 [], vJ, vJ, vJ, vJ, vJ, vI (↑xs.length : Int), vI 0, vJ, vJ, vJ, vJ, vJ, vJ, vJ, vJ, vJ, vJ], ob := [], nx := 1000000, ps := [] }) := by kernel_rfl
def st121 (xs : List (Elem kc)) (i : Int) : St :=  ⟨[AV.rsl kc xs, AV.fn 68 [], vJ, vJ, vJ, vJ, vJ, vI (↑xs.length : Int), .val (.int .i64 i), vJ, vJ, vJ, vJ, vJ, vJ, vJ, vJ, vJ, vJ], [], 1000000, []⟩
theorem b121 (L : Lp) (R : Option Res → Prop) (N : St → Prop) (xs : List (Elem kc)) (i : Int) : (evP E121 G121 L (lp121 2) (st121 xs i) (rk121 L R 2 N)) = (
    br (decide (i < (↑xs.length : Int))) (br (decide (0 ≤ i ∧ i < (↑xs.length : Int))) (br (smC (xs.getD i.toNat (edflt kc))) (br (!setV (xs.getD i.toNat (edflt kc))) (R (some { av := vI i, obs := [], outs := [] })) (N { tm := [AV.rsl kc xs, AV.fn 68 [], vJ, vJ, vJ, vJ, vJ, vI (↑xs.length : Int), vI (IntKind.i64.wrap (i + 1)), vJ, vJ, vJ, vJ, vJ, vJ, vJ, vJ, vJ, vJ], ob := [], nx := 1000000, ps := [] })) False) False) (R (some { av := vI (-1), obs := [], outs := [] }))) := by kernel_rfl
theorem h121 : G1Ok Tryd.prog 121 g121 := by
  intro args obs k h
  unfold g121 at h
  split at h
  · rename_i k cx xs0
    split at h
    rotate_left
    · exact h.elim
    rename_i xs hx
    cases castE_inv hx
    obtain ⟨hs, h⟩ := br_and h
    have hl := smCs_len hs
    refine ⟨_, ctr_fn okf hg121 Tryd.func121 (by kernel_rfl) (by kernel_rfl) (by kernel_rfl) fun C => ?_, h⟩
    rw [e121]
    refine loopFind okf121 hg121 (fun i => st121 xs i) xs.length (fun i => !setV (atC xs i)) (by omega) (fun N i hi hw next found none => ?_)
    show evP E121 G121 _ (lp121 2) (st121 xs i) (rk121 _ _ 2 _)
    rw [b121, hw, Int.toNat_natCast]
    refine br_dec (fun h2 => br_yes ⟨by omega, h2⟩ (br_t (smCs_at hs (by omega)) (br_intro (fun h3 => ?_) (fun h3 => ?_)))) (fun h2 => ?_)
    · show _ = _
      rw [found (by omega) h3]
    · exact next (by omega) h3
    · show _ = _
      rw [none (by omega)]
  · exact h.elim
noncomputable def E67 : Env := Ef.of Tryd.f67
noncomputable def G67 : Gk := gk [(121, g121)]
noncomputable def lp67 (n : Nat) : Code := (loopOf n (codeOf Tryd.f67)).getD .skip
noncomputable def ct67 (L : Lp) (R : Option Res → Prop) (n : Nat) : Kt := contOf E67 G67 L n (codeOf Tryd.f67) (endK E67 Tryd.f67.results.toList R)
noncomputable def rk67 (L : Lp) (R : Option Res → Prop) (n : Nat) (N : St → Prop) : Kt := rk (jof E67 (lp67 n)) N (ct67 L R n)
noncomputable def rkn67 (L : Lp) (R : Option Res → Prop) (n : Nat) (N : St → Prop) (m : Nat) (N2 : St → Prop) : Kt := rk (jof E67 (lp67 m)) N2 (contOf E67 G67 L m (lp67 n) (rk67 L R n N))
noncomputable def LOOPN67 (L : Lp) (R : Option Res → Prop) (n : Nat) (N : St → Prop) (m : Nat) (st : St) : Prop := L (lp67 m) st (contOf E67 G67 L m (lp67 n) (rk67 L R n N))
noncomputable def LOOP67 (L : Lp) (R : Option Res → Prop) (n : Nat) (st : St) : Prop := L (lp67 n) st (ct67 L R n)
theorem hg67 : HG Tryd.prog G67 := (hg_cons h121 hg_nil)
theorem okf67 : Ok Tryd.prog E67 := okf.of Tryd.f67
theorem e67 (L : Lp) (R : Option Res → Prop) (xs : List (Elem kc)) : (bodyP Ef G67 L Tryd.f67 [.rsl kc xs, .fn 68 []] [] R) = (
    br (smCs xs) (R (some { av := vB (decide ((fIx xs.length fun i => !setV (atC xs i)) ≥ 0)), obs := [], outs := [] })) False) := by kernel_rfl
theorem h67 : G1Ok Tryd.prog 67 g67 := by
  intro args obs k h
  unfold g67 at h
  split at h
  · rename_i k cx xs0
    split at h
    rotate_left
    · exact h.elim
    rename_i xs hx
    cases castE_inv hx
    obtain ⟨hs, h⟩ := br_and h
    refine ⟨_, ctr_fn okf hg67 Tryd.func67 (by kernel_rfl) (by kernel_rfl) (by kernel_rfl) fun C => ?_, h⟩
    rw [e67]
    refine br_t hs ?_
    show _ = _
    rw [fIx_ge]
  · exact h.elim
noncomputable def E13 : Env := Ef.of Tryd.f13
noncomputable def G13 : Gk := gk [(50, g63), (51, g51), (52, g52), (53, g120), (54, g54), (55, g55), (56, g56), (57, g57)]
noncomputable def lp13 (n : Nat) : Code := (loopOf n (codeOf Tryd.f13)).getD .skip
noncomputable def ct13 (L : Lp) (R : Option Res → Prop) (n : Nat) : Kt := contOf E13 G13 L n (codeOf Tryd.f13) (endK E13 Tryd.f13.results.toList R)
noncomputable def rk13 (L : Lp) (R : Option Res → Prop) (n : Nat) (N : St → Prop) : Kt := rk (jof E13 (lp13 n)) N (ct13 L R n)
noncomputable def rkn13 (L : Lp) (R : Option Res → Prop) (n : Nat) (N : St → Prop) (m : Nat) (N2 : St → Prop) : Kt := rk (jof E13 (lp13 m)) N2 (contOf E13 G13 L m (lp13 n) (rk13 L R n N))
noncomputable def LOOPN13 (L : Lp) (R : Option Res → Prop) (n : Nat) (N : St → Prop) (m : Nat) (st : St) : Prop := L (lp13 m) st (contOf E13 G13 L m (lp13 n) (rk13 L R n N))
noncomputable def LOOP13 (L : Lp) (R : Option Res → Prop) (n : Nat) (st : St) : Prop := L (lp13 n) st (ct13 L R n)
theorem hg13 : HG Tryd.prog G13 := (hg_cons h50 (hg_cons h51 (hg_cons h52 (hg_cons h53 (hg_cons h54 (hg_cons h55 (hg_cons h56 (hg_cons h57 hg_nil))))))))
theorem okf13 : Ok Tryd.prog E13 := okf.of Tryd.f13
theorem e13 (L : Lp) (R : Option Res → Prop) (x : Int) (s : List (Elem kc)) (d p : List (Elem k3)) (b : Bool) (f : List (Elem ki)) (n : Int) : (bodyP Ef G13 L Tryd.f13 [coreAV x s d p b f n] [] R) = (
    br (decide (x < 0)) (R (some { av := vB false, obs := [], outs := [] })) (br (decide (x > 1000000)) (R (some { av := vB false, obs := [], outs := [] })) (br (decide (d.length ≤ 1048576)) (br (!ddtOk d) (R (some { av := vB false, obs := [], outs := [] })) (br (decide ((↑p.length : Int) > 8)) (R (some { av := vB false, obs := [], outs := [] })) (br (decide (f.length ≤ 1048576)) (br (!plcs f) (R (some { av := vB false, obs := [], outs := [] })) (br (decide (n < 0)) (R (some { av := vB false, obs := [], outs := [] })) (br (decide (n > 8)) (R (some { av := vB false, obs := [], outs := [] })) (LOOP13 L R 4 { tm := [vJ, AV.ptr 0 0, vJ, vI 0, vJ, vJ, vJ, vJ, vJ, vJ, vJ, vJ, vJ, vJ, vJ, vJ, vJ, vJ, vJ, vJ, vJ, vJ, vJ, vJ, vJ, vJ, vJ, vJ, vJ, vJ, vJ, vJ, vJ, vJ, vJ, vJ, vJ, vJ, vJ, vJ, vJ, vJ, vJ, vJ, vJ, vJ, vJ, vJ, vJ, vJ, vJ, vJ, vJ, vJ, vJ, vJ, vJ, vJ, vJ, vJ, vJ, vJ, vJ, vJ, vJ, vJ, vJ, vJ, vJ, vJ, vJ, vJ, vJ, vJ, vJ, vJ, vJ, vJ, vJ, vJ, vJ, vJ, vJ, vJ, vJ, vJ, vJ, vJ, vJ], ob := [(0, AO.box [vI x, AV.rsl kc s, AV.rsl k3 d, AV.rsl k3 p, vB b, AV.rsl ki f, vI n])], nx := 1000000, ps := [] })))) False))) False))) := by kernel_rfl
def st13 (x : Int) (s : List (Elem kc)) (d p : List (Elem k3)) (b : Bool) (f : List (Elem ki)) (n : Int) (i : Int) : St :=  ⟨[vJ, AV.ptr 0 0, vJ, .val (.int .i64 i), vJ, vJ, vJ, vJ, vJ, vJ, vJ, vJ, vJ, vJ, vJ, vJ, vJ, vJ, vJ, vJ, vJ, vJ, vJ, vJ, vJ, vJ, vJ, vJ, vJ, vJ, vJ, vJ, vJ, vJ, vJ, vJ, vJ, vJ, vJ, vJ, vJ, vJ, vJ, vJ, vJ, vJ, vJ, vJ, vJ, vJ, vJ, vJ, vJ, vJ, vJ, vJ, vJ, vJ, vJ, vJ, vJ, vJ, vJ, vJ, vJ, vJ, vJ, vJ, vJ, vJ, vJ, vJ, vJ, vJ, vJ, vJ, vJ, vJ, vJ, vJ, vJ, vJ, vJ, vJ, vJ, vJ, vJ, vJ, vJ], [(0, AO.box [vI x, AV.rsl kc s, AV.rsl k3 d, AV.rsl k3 p, vB b, AV.rsl ki f, vI n])], 1000000, []⟩
theorem b13 (L : Lp) (R : Option Res → Prop) (N : St → Prop) (x : Int) (s : List (Elem kc)) (d p : List (Elem k3)) (b : Bool) (f : List (Elem ki)) (n : Int) (i : Int) : (evP E13 G13 L (lp13 4) (st13 x s d p b f n i) (rk13 L R 4 N)) = (
    br (decide (i < (↑s.length : Int))) (br (decide (0 ≤ i ∧ i < (↑s.length : Int))) (br (smC (s.getD i.toNat (edflt kc))) (br (!setV (s.getD i.toNat (edflt kc))) (R (some { av := vB false, obs := [], outs := [] })) (N { tm := [vJ, AV.ptr 0 0, vJ, vI (IntKind.i64.wrap (i + 1)), vJ, vJ, vJ, vJ, vJ, vJ, vJ, vJ, vJ, vJ, vJ, vJ, vJ, vJ, vJ, vJ, vJ, vJ, vJ, vJ, vJ, vJ, vJ, vJ, vJ, vJ, vJ, vJ, vJ, vJ, vJ, vJ, vJ, vJ, vJ, vJ, vJ, vJ, vJ, vJ, vJ, vJ, vJ, vJ, vJ, vJ, vJ, vJ, vJ, vJ, vJ, vJ, vJ, vJ, vJ, vJ, vJ, vJ, vJ, vJ, vJ, vJ, vJ, vJ, vJ, vJ, vJ, vJ, vJ, vJ, vJ, vJ, vJ, vJ, vJ, vJ, vJ, vJ, vJ, vJ, vJ, vJ, vJ, vJ, vJ], ob := [(0, AO.box [vI x, AV.rsl kc s, AV.rsl k3 d, AV.rsl k3 p, vB b, AV.rsl ki f, vI n])], nx := 1000000, ps := [] })) False) False) (LOOP13 L R 9 { tm := [vJ, AV.ptr 0 0, vJ, vJ, vI 0, vJ, vJ, vJ, vJ, vJ, vJ, vJ, vJ, vJ, vJ, vJ, vJ, vJ, vJ, vJ, vJ, vJ, vJ, vJ, vJ, vJ, vJ, vJ, vJ, vJ, vJ, vJ, vJ, vJ, vJ, vJ, vJ, vJ, vJ, vJ, vJ, vJ, vJ, vJ, vJ, vJ, vJ, vJ, vJ, vJ, vJ, vJ, vJ, vJ, vJ, vJ, vJ, vJ, vJ, vJ, vJ, vJ, vJ, vJ, vJ, vJ, vJ, vJ, vJ, vJ, vJ, vJ, vJ, vJ, vJ, vJ, vJ, vJ, vJ, vJ, vJ, vJ, vJ, vJ, vJ, vJ, vJ, vJ, vJ], ob := [(0, AO.box [vI x, AV.rsl kc s, AV.rsl k3 d, AV.rsl k3 p, vB b, AV.rsl ki f, vI n])], nx := 1000000, ps := [] })) := by kernel_rfl
def sp13 (x : Int) (s : List (Elem kc)) (d p : List (Elem k3)) (b : Bool) (f : List (Elem ki)) (n : Int) (i : Int) : St :=  ⟨[vJ, AV.ptr 0 0, vJ, vJ, .val (.int .i64 i), vJ, vJ, vJ, vJ, vJ, vJ, vJ, vJ, vJ, vJ, vJ, vJ, vJ, vJ, vJ, vJ, vJ, vJ, vJ, vJ, vJ, vJ, vJ, vJ, vJ, vJ, vJ, vJ, vJ, vJ, vJ, vJ, vJ, vJ, vJ, vJ, vJ, vJ, vJ, vJ, vJ, vJ, vJ, vJ, vJ, vJ, vJ, vJ, vJ, vJ, vJ, vJ, vJ, vJ, vJ, vJ, vJ, vJ, vJ, vJ, vJ, vJ, vJ, vJ, vJ, vJ, vJ, vJ, vJ, vJ, vJ, vJ, vJ, vJ, vJ, vJ, vJ, vJ, vJ, vJ, vJ, vJ, vJ, vJ], [(0, AO.box [vI x, AV.rsl kc s, AV.rsl k3 d, AV.rsl k3 p, vB b, AV.rsl ki f, vI n])], 1000000, []⟩
theorem bp13 (L : Lp) (R : Option Res → Prop) (N : St → Prop) (x : Int) (s : List (Elem kc)) (d p : List (Elem k3)) (b : Bool) (f : List (Elem ki)) (n : Int) (i : Int) : (evP E13 G13 L (lp13 9) (sp13 x s d p b f n i) (rk13 L R 9 N)) = (
    br (decide (i < (↑p.length : Int))) (br (decide (0 ≤ i ∧ i < (↑p.length : Int))) (br (!ptrOk (p.getD i.toNat (edflt k3)).fst (p.getD i.toNat (edflt k3)).snd.fst (p.getD i.toNat (edflt k3)).snd.snd.fst) (R (some { av := vB false, obs := [], outs := [] })) (br (decide (0 ≤ i ∧ i < (↑p.length : Int))) (br ((p.getD i.toNat (edflt k3)).fst == 0) (R (some { av := vB false, obs := [], outs := [] })) (N { tm := [vJ, AV.ptr 0 0, vJ, vJ, vI (IntKind.i64.wrap (i + 1)), vJ, vJ, vJ, vJ, vJ, vJ, vJ, vJ, vJ, vJ, vJ, vJ, vJ, vJ, vJ, vJ, vJ, vJ, vJ, vJ, vJ, vJ, vJ, vJ, vJ, vJ, vJ, vJ, vJ, vJ, vJ, vJ, vJ, vJ, vJ, vJ, vJ, vJ, vJ, vJ, vJ, vJ, vJ, vJ, vJ, vJ, vJ, vJ, vJ, vJ, vJ, vJ, vJ, vJ, vJ, vJ, vJ, vJ, vJ, vJ, vJ, vJ, vJ, vJ, vJ, vJ, vJ, vJ, vJ, vJ, vJ, vJ, vJ, vJ, vJ, vJ, vJ, vJ, vJ, vJ, vJ, vJ, vJ, vJ], ob := [(0, AO.box [vI x, AV.rsl kc s, AV.rsl k3 d, AV.rsl k3 p, vB b, AV.rsl ki f, vI n])], nx := 1000000, ps := [] })) False)) False) (br (smCo (x, s, d, p, b, f, n)) (br (smB (bkS (x, s, d, p, b, f, n).snd.fst)) (br (bookOk (bkS (x, s, d, p, b, f, n).snd.fst)) (br (smCo (x, s, d, p, b, f, n) && ddtOk (x, s, d, p, b, f, n).snd.snd.fst) (br (cntS (x, s, d, p, b, f, n).snd.snd.fst (x, s, d, p, b, f, n).snd.fst) (br (smCo (x, s, d, p, b, f, n)) (R (some { av := vB ((ptsOf (x, s, d, p, b, f, n).snd.fst).all (sumK (x, s, d, p, b, f, n).snd.snd.fst)), obs := [], outs := [] })) False) (R (some { av := vB false, obs := [], outs := [] }))) False) (R (some { av := vB false, obs := [], outs := [] }))) False) False)) := by kernel_rfl
theorem rOk_1 {e : Elem k3} (h : pOk e = false) : rOk e = false := by unfold rOk realP; unfold pOk at h; rw [h]; rfl
theorem rOk_2 {e : Elem k3} (h : (e.1 == 0) = true) : rOk e = false := by unfold rOk realP bne; rw [h, Bool.not_true, Bool.and_false]
theorem rOk_3 {e : Elem k3} (h : pOk e = true) (h2 : (e.1 == 0) = false) : rOk e = true := by unfold rOk realP bne; unfold pOk at h; rw [h, h2]; rfl
theorem pts_ok {s : List (Elem kc)} (h : (allB s.length fun i => setV (atC s i)) = true) : ∀ q ∈ ptsOf s, pOk q = true := by
  intro q hq
  unfold ptsOf at hq
  rw [List.mem_flatMap] at hq
  obtain ⟨e, he, hq⟩ := hq
  obtain ⟨i, hi, rfl⟩ := List.getElem_of_mem he
  have h1 := allB_at h hi
  have e1 : atC s i = s[i] := by unfold atC; rw [List.getD_eq_getElem?_getD, List.getElem?_eq_getElem hi]; rfl
  rw [e1] at h1
  unfold setV at h1
  rw [Bool.and_eq_true] at h1
  obtain ⟨j, hj, rfl⟩ := List.getElem_of_mem hq
  have h2 := allB_at h1.2 (show j < 8 from hj)
  unfold atP at h2
  rw [List.getD_eq_getElem?_getD, List.getElem?_eq_getElem hj] at h2
  exact h2
theorem h13 : G1Ok Tryd.prog 13 g13 := by
  intro args obs k h
  unfold g13 at h
  split at h
  · rename_i k us
    split at h
    rotate_left
    · exact h.elim
    rename_i c hc
    obtain rfl := coreOf_inv hc
    obtain ⟨x, s, d, p, b, f, n⟩ := c
    obtain ⟨hpp, h⟩ := br_and h
    unfold smB' at hpp
    rw [Bool.and_eq_true] at hpp
    obtain ⟨hp, hcs⟩ := hpp
    have hcs : smCs s = true := hcs
    have hl := smCo_s hp
    have hdl := smCo_d hp
    have hpl := smCo_p hp
    have hfl := smCo_f hp
    refine ⟨_, ctr_fn okf hg13 Tryd.func13 (by kernel_rfl) (by kernel_rfl) (by kernel_rfl) fun C => ?_, h⟩
    show bodyP Ef G13 _ Tryd.f13 [coreAV x s d p b f n] [] _
    rw [e13]
    refine br_dec (fun h1 => ?_) (fun h1 => br_dec (fun h2 => ?_) (fun h2 => br_yes hdl (br_not (fun h3 => ?_) (fun h3 => br_dec (fun h4 => ?_) (fun h4 => br_yes hfl (br_not (fun h5 => ?_) (fun h5 => br_dec (fun h6 => ?_) (fun h6 => br_dec (fun h7 => ?_) (fun h7 => ?_)))))))))
    · show _ = _
      rw [cok_x (rng_l h1)]
    · show _ = _
      rw [cok_x (rng_h h2)]
    · show _ = _
      rw [cok_d h3]
    · show _ = _
      rw [cok_p (decide_eq_false (show ¬ (p.length : Int) ≤ 8 by omega))]
    · show _ = _
      rw [cok_f h5]
    · show _ = _
      rw [cok_n (rng_l h6)]
    · show _ = _
      rw [cok_n (rng_h h7)]
    refine loopAll okf13 hg13 (fun i => st13 x s d p b f n i) s.length (fun i => setV (atC s i)) (by omega) (fun N i hi hw next fails done => ?_)
    show evP E13 G13 _ (lp13 4) (st13 x s d p b f n i) (rk13 _ _ 4 _)
    rw [b13, hw, Int.toNat_natCast]
    refine br_dec (fun h8 => br_yes ⟨by omega, h8⟩ (br_t (smCs_at hcs (by omega)) (br_not (fun h9 => ?_) (fun h9 => next (by omega) h9)))) (fun h8 => ?_)
    · show _ = _
      rw [cok_s (fails (by omega) h9)]
    have hS := done (by omega)
    refine loopAll okf13 hg13 (fun i => sp13 x s d p b f n i) p.length (fun i => rOk (atP p i)) (by omega) (fun N2 j hj hw2 next2 fails2 done2 => ?_)
    show evP E13 G13 _ (lp13 9) (sp13 x s d p b f n j) (rk13 _ _ 9 _)
    rw [bp13, hw2, Int.toNat_natCast]
    refine br_dec (fun g1 => br_yes ⟨by omega, g1⟩ (br_not (fun g2 => ?_) (fun g2 => br_yes ⟨by omega, g1⟩ (br_intro (fun g3 => ?_) (fun g3 => ?_))))) (fun g1 => ?_)
    · show _ = _
      rw [cok_r (fails2 (by omega) (rOk_1 g2))]
    · show _ = _
      rw [cok_r (fails2 (by omega) (rOk_2 g3))]
    · exact next2 (by omega) (rOk_3 g2 g3)
    · have hR := done2 (by omega)
      refine br_t hp (br_t (smB_bk hcs) (br_intro (fun g2 => br_t (show (smCo (x, s, d, p, b, f, n) && ddtOk d) = true by rw [hp, h3]; rfl) (br_intro (fun g3 => br_t hp ?_) (fun g3 => ?_))) (fun g2 => ?_)))
      · show _ = _
        have g3 : cntS d s = true := g3
        rw [cok_t (rng_t h1 h2) h3 (decide_eq_true (show (p.length : Int) ≤ 8 by omega)) h5 (rng_t h6 h7) hS hR g2, g3]
        rfl
      · show _ = _
        rw [cok_c g3]
      · show _ = _
        rw [cok_b g2]
  · exact h.elim
noncomputable def E15 : Env := Ef.of Tryd.f15
noncomputable def G15 : Gk := gk [(62, g62), (63, g63), (64, g64r), (67, g67), (71, g55), (70, g54), (72, g72)]
noncomputable def lp15 (n : Nat) : Code := (loopOf n (codeOf Tryd.f15)).getD .skip
noncomputable def ct15 (L : Lp) (R : Option Res → Prop) (n : Nat) : Kt := contOf E15 G15 L n (codeOf Tryd.f15) (endK E15 Tryd.f15.results.toList R)
noncomputable def rk15 (L : Lp) (R : Option Res → Prop) (n : Nat) (N : St → Prop) : Kt := rk (jof E15 (lp15 n)) N (ct15 L R n)
noncomputable def rkn15 (L : Lp) (R : Option Res → Prop) (n : Nat) (N : St → Prop) (m : Nat) (N2 : St → Prop) : Kt := rk (jof E15 (lp15 m)) N2 (contOf E15 G15 L m (lp15 n) (rk15 L R n N))
noncomputable def LOOPN15 (L : Lp) (R : Option Res → Prop) (n : Nat) (N : St → Prop) (m : Nat) (st : St) : Prop := L (lp15 m) st (contOf E15 G15 L m (lp15 n) (rk15 L R n N))
noncomputable def LOOP15 (L : Lp) (R : Option Res → Prop) (n : Nat) (st : St) : Prop := L (lp15 n) st (ct15 L R n)
theorem hg15 : HG Tryd.prog G15 := (hg_cons h62 (hg_cons h63 (hg_cons h64r (hg_cons h67 (hg_cons h71 (hg_cons h70 (hg_cons h72 hg_nil)))))))
theorem okf15 : Ok Tryd.prog E15 := okf.of Tryd.f15
theorem e15 (L : Lp) (R : Option Res → Prop) (x : Int) (s : List (Elem kc)) (d p : List (Elem k3)) (b : Bool) (f : List (Elem ki)) (n : Int) : (bodyP Ef G15 L Tryd.f15 [coreAV x s d p b f n] [] R) = (
    br (!(decide (0 ≤ x) && decide (x ≤ 1000000))) (R (some { av := vB false, obs := [], outs := [] })) (br (decide (d.length ≤ 1048576)) (br (!ddtOk d) (R (some { av := vB false, obs := [], outs := [] })) (br (decide ((↑p.length : Int) > 8)) (R (some { av := vB false, obs := [], outs := [] })) (br (decide (p.length ≤ 1048576)) (br (anyB p.length fun i => !rOk (atP p i)) (R (some { av := vB false, obs := [], outs := [] })) (br (!(decide (0 ≤ n) && decide (n ≤ 8))) (R (some { av := vB false, obs := [], outs := [] })) (LOOP15 L R 4 { tm := [vJ, AV.ptr 0 0, vJ, vJ, vJ, vJ, vJ, vJ, vJ, vJ, vJ, vJ, vJ, vJ, vJ, vJ, vJ, vJ, vJ, vJ, vJ, vJ, vJ, vJ, vJ, vJ, vJ, vJ, vJ, vJ, vJ, vJ, vJ, AV.rsl ki f, vI (↑f.length : Int), vI 0, vJ, vJ, vJ, vJ, vJ, vJ, vJ, vJ, vJ, vJ, vJ, vJ, vJ, vJ, vJ, vJ, vJ, vJ, vJ, vJ, vJ, vJ, vJ, vJ, vJ, vJ, vJ, vJ, vJ, vJ, vJ, vJ, vJ, vJ, vJ], ob := [(0, AO.box [vI x, AV.rsl kc s, AV.rsl k3 d, AV.rsl k3 p, vB b, AV.rsl ki f, vI n])], nx := 1000000, ps := [] }))) False))) False)) := by kernel_rfl
def st15 (x : Int) (s : List (Elem kc)) (d p : List (Elem k3)) (b : Bool) (f : List (Elem ki)) (n : Int) (i : Int) : St :=  ⟨[vJ, AV.ptr 0 0, vJ, vJ, vJ, vJ, vJ, vJ, vJ, vJ, vJ, vJ, vJ, vJ, vJ, vJ, vJ, vJ, vJ, vJ, vJ, vJ, vJ, vJ, vJ, vJ, vJ, vJ, vJ, vJ, vJ, vJ, vJ, AV.rsl ki f, vI (↑f.length : Int), .val (.int .i64 i), vJ, vJ, vJ, vJ, vJ, vJ, vJ, vJ, vJ, vJ, vJ, vJ, vJ, vJ, vJ, vJ, vJ, vJ, vJ, vJ, vJ, vJ, vJ, vJ, vJ, vJ, vJ, vJ, vJ, vJ, vJ, vJ, vJ, vJ, vJ], [(0, AO.box [vI x, AV.rsl kc s, AV.rsl k3 d, AV.rsl k3 p, vB b, AV.rsl ki f, vI n])], 1000000, []⟩
theorem b15 (L : Lp) (R : Option Res → Prop) (N : St → Prop) (x : Int) (s : List (Elem kc)) (d p : List (Elem k3)) (b : Bool) (f : List (Elem ki)) (n : Int) (i : Int) : (evP E15 G15 L (lp15 4) (st15 x s d p b f n i) (rk15 L R 4 N)) = (
    br (decide (i < (↑f.length : Int))) (br (decide (0 ≤ i ∧ i < (↑f.length : Int))) (br (!(decide (13 ≤ (f.getD i.toNat (edflt ki)).fst) && decide ((f.getD i.toNat (edflt ki)).fst ≤ 119))) (R (some { av := vB false, obs := [], outs := [] })) (br (decide (i > 0)) (br (decide (0 ≤ IntKind.i64.wrap (i - 1) ∧ IntKind.i64.wrap (i - 1) < (↑f.length : Int))) (br (decide ((f.getD (IntKind.i64.wrap (i - 1)).toNat (edflt ki)).fst ≥ (f.getD i.toNat (edflt ki)).fst)) (R (some { av := vB false, obs := [], outs := [] })) (N { tm := [vJ, AV.ptr 0 0, vJ, vJ, vJ, vJ, vJ, vJ, vJ, vJ, vJ, vJ, vJ, vJ, vJ, vJ, vJ, vJ, vJ, vJ, vJ, vJ, vJ, vJ, vJ, vJ, vJ, vJ, vJ, vJ, vJ, vJ, vJ, AV.rsl ki f, vI (↑f.length : Int), vI (IntKind.i64.wrap (i + 1)), vJ, vJ, vJ, vJ, vJ, vJ, vJ, vJ, vJ, vJ, vJ, vJ, vJ, vJ, vJ, vJ, vJ, vJ, vJ, vJ, vJ, vJ, vJ, vJ, vJ, vJ, vJ, vJ, vJ, vJ, vJ, vJ, vJ, vJ, vJ], ob := [(0, AO.box [vI x, AV.rsl kc s, AV.rsl k3 d, AV.rsl k3 p, vB b, AV.rsl ki f, vI n])], nx := 1000000, ps := [] })) False) (N { tm := [vJ, AV.ptr 0 0, vJ, vJ, vJ, vJ, vJ, vJ, vJ, vJ, vJ, vJ, vJ, vJ, vJ, vJ, vJ, vJ, vJ, vJ, vJ, vJ, vJ, vJ, vJ, vJ, vJ, vJ, vJ, vJ, vJ, vJ, vJ, AV.rsl ki f, vI (↑f.length : Int), vI (IntKind.i64.wrap (i + 1)), vJ, vJ, vJ, vJ, vJ, vJ, vJ, vJ, vJ, vJ, vJ, vJ, vJ, vJ, vJ, vJ, vJ, vJ, vJ, vJ, vJ, vJ, vJ, vJ, vJ, vJ, vJ, vJ, vJ, vJ, vJ, vJ, vJ, vJ, vJ], ob := [(0, AO.box [vI x, AV.rsl kc s, AV.rsl k3 d, AV.rsl k3 p, vB b, AV.rsl ki f, vI n])], nx := 1000000, ps := [] }))) False) (br (smCs s) (br (!anyB s.length fun i => !setV (atC s i)) (br (smCo (x, s, d, p, b, f, n)) (br (smB (bkS (x, s, d, p, b, f, n).snd.fst)) (br (bookOk (bkS (x, s, d, p, b, f, n).snd.fst)) (br (smCo (x, s, d, p, b, f, n)) (R (some { av := vB (cntI (x, s, d, p, b, f, n).snd.snd.fst (x, s, d, p, b, f, n).snd.fst), obs := [], outs := [] })) False) (R (some { av := vB false, obs := [], outs := [] }))) False) False) (R (some { av := vB false, obs := [], outs := [] }))) False)) := by kernel_rfl
theorem anyN {n : Nat} {q : Nat → Bool} : (anyB n fun i => !q i) = !allB n q := by
  rw [anyB_all]
  congr 1
  exact allB_congr fun i _ => by rw [Bool.not_not]
theorem h15 : G1Ok Tryd.prog 15 g13 := by
  intro args obs k h
  unfold g13 at h
  split at h
  · rename_i k us
    split at h
    rotate_left
    · exact h.elim
    rename_i c hc
    obtain rfl := coreOf_inv hc
    obtain ⟨x, s, d, p, b, f, n⟩ := c
    obtain ⟨hpp, h⟩ := br_and h
    unfold smB' at hpp
    rw [Bool.and_eq_true] at hpp
    obtain ⟨hp, hcs⟩ := hpp
    have hcs : smCs s = true := hcs
    have hl := smCo_s hp
    have hdl := smCo_d hp
    have hpl := smCo_p hp
    have hfl := smCo_f hp
    refine ⟨_, ctr_fn okf hg15 Tryd.func15 (by kernel_rfl) (by kernel_rfl) (by kernel_rfl) fun C => ?_, h⟩
    show bodyP Ef G15 _ Tryd.f15 [coreAV x s d p b f n] [] _
    rw [e15, anyN]
    refine br_not (fun h1 => ?_) (fun h1 => br_yes hdl (br_not (fun h3 => ?_) (fun h3 => br_dec (fun h4 => ?_) (fun h4 => br_yes hpl (br_not (fun h5 => ?_) (fun h5 => br_not (fun h6 => ?_) (fun h6 => ?_)))))))
    · show _ = _
      rw [cok_x h1]
    · show _ = _
      rw [cok_d h3]
    · show _ = _
      rw [cok_p (decide_eq_false (show ¬ (p.length : Int) ≤ 8 by omega))]
    · show _ = _
      rw [cok_r h5]
    · show _ = _
      rw [cok_n h6]
    refine loopAll okf15 hg15 (fun i => st15 x s d p b f n i) f.length (plc1 f) (by omega) (fun N i hi hw next fails done => ?_)
    show evP E15 G15 _ (lp15 4) (st15 x s d p b f n i) (rk15 _ _ 4 _)
    rw [b15, hw, Int.toNat_natCast, anyN]
    refine br_dec (fun h8 => br_yes ⟨by omega, h8⟩ (br_not (fun h9 => ?_) (fun h9 => br_dec (fun g1 => ?_) (fun g1 => ?_)))) (fun h8 => ?_)
    · show _ = _
      rw [cok_f (fails (by omega) (by rcases rng_f (x := atI f i) h9 with g | g; exact plc_l g; exact plc_h (by omega)))]
    · have h9 := rng_i (x := atI f i) h9
      rw [ix_pred g1 (by omega), Int.toNat_natCast]
      refine br_yes ⟨by omega, by omega⟩ (br_dec (fun g2 => ?_) (fun g2 => ?_))
      · show _ = _
        rw [cok_f (fails (by omega) (plc_o g1 g2))]
      · exact next (by omega) (plc_t (by omega) (by omega) (.inr (Int.not_le.1 g2)))
    · have h9 := rng_i (x := atI f i) h9
      exact next (by omega) (plc_t (by omega) (by omega) (.inl (by omega)))
    · have hF : plcs f = true := done (by omega)
      refine br_t hcs (br_not (fun g1 => br_t hp (br_t (smB_bk hcs) (br_intro (fun g2 => br_t hp ?_) (fun g2 => ?_)))) (fun g1 => ?_))
      · have hS : (allB s.length fun i => setV (atC s i)) = true := by cases hh : allB s.length fun i => setV (atC s i) with | true => rfl | false => rw [hh] at g1; cases g1
        show _ = _
        rw [cok_t h1 h3 (decide_eq_true (show (p.length : Int) ≤ 8 by omega)) hF h6 hS h5 g2, ← cnt_eqv h3 (pts_ok hS)]
      · show _ = _
        rw [cok_b g2]
      · have hS : (allB s.length fun i => setV (atC s i)) = false := by cases hh : allB s.length fun i => setV (atC s i) with | true => rw [hh] at g1; cases g1 | false => rfl
        show _ = _
        rw [cok_s hS]
  · exact h.elim
noncomputable def E3 : Env := E0.of Tryd.f3
noncomputable def G3 : Gk := gk [(12, g12), (13, g13), (14, g14), (15, g13), (16, g16)]
noncomputable def lp3 (n : Nat) : Code := (loopOf n (codeOf Tryd.f3)).getD .skip
noncomputable def ct3 (L : Lp) (R : Option Res → Prop) (n : Nat) : Kt := contOf E3 G3 L n (codeOf Tryd.f3) (endK E3 Tryd.f3.results.toList R)
noncomputable def rk3 (L : Lp) (R : Option Res → Prop) (n : Nat) (N : St → Prop) : Kt := rk (jof E3 (lp3 n)) N (ct3 L R n)
noncomputable def rkn3 (L : Lp) (R : Option Res → Prop) (n : Nat) (N : St → Prop) (m : Nat) (N2 : St → Prop) : Kt := rk (jof E3 (lp3 m)) N2 (contOf E3 G3 L m (lp3 n) (rk3 L R n N))
noncomputable def LOOPN3 (L : Lp) (R : Option Res → Prop) (n : Nat) (N : St → Prop) (m : Nat) (st : St) : Prop := L (lp3 m) st (contOf E3 G3 L m (lp3 n) (rk3 L R n N))
noncomputable def LOOP3 (L : Lp) (R : Option Res → Prop) (n : Nat) (st : St) : Prop := L (lp3 n) st (ct3 L R n)
theorem hg3 : HG Tryd.prog G3 := (hg_cons h12 (hg_cons h13 (hg_cons h14 (hg_cons h15 (hg_cons h16 hg_nil)))))
theorem okf3 : Ok Tryd.prog E3 := ok0.of Tryd.f3
theorem e3 (L : Lp) (R : Option Res → Prop) (x : Int) (s : List (Elem kc)) (d p : List (Elem k3)) (b : Bool) (f : List (Elem ki)) (n : Int) : (bodyP E0 G3 L Tryd.f3 [coreAV x s d p b f n] [] R) = (
    br (inCo (x, s, d, p, b, f, n) && true) (br (decide (szR 1048576 (szCo (x, s, d, p, b, f, n)) < 0)) (R (some { av := vB true, obs := [], outs := [] })) (br (smCo (x, s, d, p, b, f, n)) (br (smB' (x, s, d, p, b, f, n)) (br (smCo (x, s, d, p, b, f, n)) (br (smB' (x, s, d, p, b, f, n)) (br (!coreOk (x, s, d, p, b, f, n).fst (x, s, d, p, b, f, n).snd.fst (x, s, d, p, b, f, n).snd.snd.fst (x, s, d, p, b, f, n).snd.snd.snd.fst (x, s, d, p, b, f, n).snd.snd.snd.snd.snd.fst (x, s, d, p, b, f, n).snd.snd.snd.snd.snd.snd == coreOk (x, s, d, p, b, f, n).fst (x, s, d, p, b, f, n).snd.fst (x, s, d, p, b, f, n).snd.snd.fst (x, s, d, p, b, f, n).snd.snd.snd.fst (x, s, d, p, b, f, n).snd.snd.snd.snd.snd.fst (x, s, d, p, b, f, n).snd.snd.snd.snd.snd.snd) (R (some { av := vB false, obs := [], outs := [] })) (br (smCo (x, s, d, p, b, f, n)) (br (smCo (x, s, d, p, b, f, n)) (br (!eqCo (x, s, d, p, b, f, n) (x, s, d, p, b, f, n)) (R (some { av := vB false, obs := [], outs := [] })) (R (some { av := vB true, obs := [], outs := [] }))) False) False)) False) False) False) False)) False) := by kernel_rfl
theorem smCs_of {s : List (Elem kc)} (h : szCs s ≤ 1048576) : smCs s = true := by
  have h : s.length + (s.map szC).sum ≤ 1048576 := h
  unfold smCs
  rw [Bool.and_eq_true, decide_eq_true_eq, List.all_eq_true]
  refine ⟨by omega, fun e he => ?_⟩
  have h1 := sum_mem szC he
  have h2 : szC e = e.1.size + e.2.2.1.size := rfl
  unfold smC
  rw [Bool.and_eq_true, decide_eq_true_eq, decide_eq_true_eq]
  omega
theorem smB'_of {x : Int} {s : List (Elem kc)} {d p : List (Elem k3)} {b : Bool} {f : List (Elem ki)} {n : Int} {l : Int} (hl : l ≤ 1048576) (h : ¬ szR l (szCo (x, s, d, p, b, f, n)) < 0) : smB' (x, s, d, p, b, f, n) = true := by
  have h1 := smCo_of hl h
  have h2 := szR_ge0 h
  have e : szCo (x, s, d, p, b, f, n) = szCs s + d.length + p.length + f.length := rfl
  unfold smB'
  rw [h1, Bool.true_and]
  exact smCs_of (s := s) (by omega)
theorem not_beq_self (q : Bool) : (!q == q) = false := by cases q <;> rfl
theorem c3 (x : Int) (s : List (Elem kc)) (d p : List (Elem k3)) (b : Bool) (f : List (Elem ki)) (n : Int) (h : coOk x s d p b f n) : Ctr Tryd.prog 3 [coreAV x s d p b f n] [] ⟨.val (.bool true), [], []⟩ := by
  refine ctr_fn ok0 hg3 Tryd.func3 (by kernel_rfl) (by kernel_rfl) (by kernel_rfl) fun C => ?_
  rw [e3, inCo_of h]
  refine br_t rfl (br_dec (fun _ => rfl) (fun h1 => ?_))
  have hs := smCo_of (Int.le_refl _) h1
  have hb := smB'_of (Int.le_refl _) h1
  rw [hs, hb, eqCo_self]
  refine br_t rfl (br_t rfl (br_t rfl (br_t rfl (br_f ?_ (br_t rfl (br_t rfl rfl))))))
  exact not_beq_self _
end Go.Proofs.YtljilcingbohkabDoor.Ev
