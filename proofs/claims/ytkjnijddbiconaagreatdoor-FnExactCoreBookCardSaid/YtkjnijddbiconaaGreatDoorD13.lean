/- Contracts for books: copies, equality. -/
import Derived.Test.YtkjnijddbiconaaGreatDoorD12
namespace Go.Proofs.YtkjnijddbiconaaGreatDoor.Ev
open Go
set_option linter.unusedVariables false
set_option linter.unusedSimpArgs false
set_option maxRecDepth 100000
abbrev k8 : List CK := [.str, .str, .str, .str, .str, .str, .str, .str]
def g215 : G1
  | [.agg [.val (.string a0), .val (.string a1), .val (.string a2), .val (.string a3), .val (.string a4), .val (.string a5), .val (.string a6), .val (.string a7)], .agg [.val (.string b0), .val (.string b1), .val (.string b2), .val (.string b3), .val (.string b4), .val (.string b5), .val (.string b6), .val (.string b7)]], [], k =>
    k ⟨.val (.bool (elemEq k8 (a0, a1, a2, a3, a4, a5, a6, a7, ()) (b0, b1, b2, b3, b4, b5, b6, b7, ()))), [], []⟩
  | _, _, _ => False
def eqR (cs : List CK) (xs ys : List (Elem cs)) : Bool := eqL (elemEq cs) (edflt cs) xs ys
def g30 : G1
  | [.agg [.rsl [.str, .int .i64, .str, .str, .str, .str, .str, .str, .str, .str, .str] xs], .agg [.rsl [.str, .int .i64, .str, .str, .str, .str, .str, .str, .str, .str, .str] ys]], [], k => br (decide (xs.length ≤ 1048576)) (k ⟨.val (.bool (eqR kb xs ys)), [], []⟩) False
  | _, _, _ => False
theorem ckEq_self : ∀ (c : CK) (a : c.T), ckEq c a a = true
  | .int _, a => by simp [ckEq]
  | .str, a => by simp [ckEq, strEq]
  | .bool, a => by simp [ckEq]
theorem elemEq_self : ∀ (cs : List CK) (a : Elem cs), elemEq cs a a = true
  | [], _ => rfl
  | [c], a => ckEq_self c a.1
  | c :: c' :: cs, a => by
    show (ckEq c a.1 a.1 && elemEq (c' :: cs) a.2 a.2) = true
    rw [ckEq_self, elemEq_self]
    rfl
theorem eqR_self (cs : List CK) (xs : List (Elem cs)) : eqR cs xs xs = true := eqL_self (elemEq_self cs) xs
noncomputable def E215 : Env := E0.of Tryz.f215
noncomputable def G215 : Gk := gk []
noncomputable def lp215 (n : Nat) : Code := (loopOf n (codeOf Tryz.f215)).getD .skip
noncomputable def ct215 (L : Lp) (R : Option Res → Prop) (n : Nat) : Kt := contOf E215 G215 L n (codeOf Tryz.f215) (endK E215 Tryz.f215.results.toList R)
noncomputable def rk215 (L : Lp) (R : Option Res → Prop) (n : Nat) (N : St → Prop) : Kt := rk (jof E215 (lp215 n)) N (ct215 L R n)
noncomputable def rkn215 (L : Lp) (R : Option Res → Prop) (n : Nat) (N : St → Prop) (m : Nat) (N2 : St → Prop) : Kt := rk (jof E215 (lp215 m)) N2 (contOf E215 G215 L m (lp215 n) (rk215 L R n N))
noncomputable def LOOPN215 (L : Lp) (R : Option Res → Prop) (n : Nat) (N : St → Prop) (m : Nat) (st : St) : Prop := L (lp215 m) st (contOf E215 G215 L m (lp215 n) (rk215 L R n N))
noncomputable def LOOP215 (L : Lp) (R : Option Res → Prop) (n : Nat) (st : St) : Prop := L (lp215 n) st (ct215 L R n)
theorem hg215 : HG Tryz.prog G215 := hg_nil
theorem okf215 : Ok Tryz.prog E215 := ok0.of Tryz.f215
theorem e215 (L : Lp) (R : Option Res → Prop) (a0 a1 a2 a3 a4 a5 a6 a7 b0 b1 b2 b3 b4 b5 b6 b7 : ByteArray) : (bodyP E0 G215 L Tryz.f215 [s8 a0 a1 a2 a3 a4 a5 a6 a7, s8 b0 b1 b2 b3 b4 b5 b6 b7] [] R) = (
    LOOP215 L R 2 { tm := [AV.agg [vS a0, vS a1, vS a2, vS a3, vS a4, vS a5, vS a6, vS a7], AV.agg [vS b0, vS b1, vS b2, vS b3, vS b4, vS b5, vS b6, vS b7], AV.ptr 0 0, AV.ptr 1 0, vB false, vI 0, vJ, vJ, vJ, vJ, vJ, vJ, vJ, vJ, vJ, vJ, vJ], ob := [(0, AO.box [vS a0, vS a1, vS a2, vS a3, vS a4, vS a5, vS a6, vS a7]), (1, AO.box [vS b0, vS b1, vS b2, vS b3, vS b4, vS b5, vS b6, vS b7])], nx := 1000000, ps := [] }) := by kernel_rfl
def st215 (a0 a1 a2 a3 a4 a5 a6 a7 b0 b1 b2 b3 b4 b5 b6 b7 : ByteArray) (i : Int) : St :=  ⟨[AV.agg [vS a0, vS a1, vS a2, vS a3, vS a4, vS a5, vS a6, vS a7], AV.agg [vS b0, vS b1, vS b2, vS b3, vS b4, vS b5, vS b6, vS b7], AV.ptr 0 0, AV.ptr 1 0, vB false, .val (.int .i64 i), vJ, vJ, vJ, vJ, vJ, vJ, vJ, vJ, vJ, vJ, vJ], [(0, AO.box [vS a0, vS a1, vS a2, vS a3, vS a4, vS a5, vS a6, vS a7]), (1, AO.box [vS b0, vS b1, vS b2, vS b3, vS b4, vS b5, vS b6, vS b7])], 1000000, []⟩
theorem b215_0 (L : Lp) (R : Option Res → Prop) (N : St → Prop) (a0 a1 a2 a3 a4 a5 a6 a7 b0 b1 b2 b3 b4 b5 b6 b7 : ByteArray) : (evP E215 G215 L (lp215 2) (st215 a0 a1 a2 a3 a4 a5 a6 a7 b0 b1 b2 b3 b4 b5 b6 b7 0) (rk215 L R 2 N)) = (
    br (!strEq a0 b0) (R (some { av := vB false, obs := [], outs := [] })) (N { tm := [AV.agg [vS a0, vS a1, vS a2, vS a3, vS a4, vS a5, vS a6, vS a7], AV.agg [vS b0, vS b1, vS b2, vS b3, vS b4, vS b5, vS b6, vS b7], AV.ptr 0 0, AV.ptr 1 0, vB false, vI 1, vJ, vJ, vJ, vJ, vJ, vJ, vJ, vJ, vJ, vJ, vJ], ob := [(0, AO.box [vS a0, vS a1, vS a2, vS a3, vS a4, vS a5, vS a6, vS a7]), (1, AO.box [vS b0, vS b1, vS b2, vS b3, vS b4, vS b5, vS b6, vS b7])], nx := 1000000, ps := [] })) := by kernel_rfl
theorem b215_1 (L : Lp) (R : Option Res → Prop) (N : St → Prop) (a0 a1 a2 a3 a4 a5 a6 a7 b0 b1 b2 b3 b4 b5 b6 b7 : ByteArray) : (evP E215 G215 L (lp215 2) (st215 a0 a1 a2 a3 a4 a5 a6 a7 b0 b1 b2 b3 b4 b5 b6 b7 1) (rk215 L R 2 N)) = (
    br (!strEq a1 b1) (R (some { av := vB false, obs := [], outs := [] })) (N { tm := [AV.agg [vS a0, vS a1, vS a2, vS a3, vS a4, vS a5, vS a6, vS a7], AV.agg [vS b0, vS b1, vS b2, vS b3, vS b4, vS b5, vS b6, vS b7], AV.ptr 0 0, AV.ptr 1 0, vB false, vI 2, vJ, vJ, vJ, vJ, vJ, vJ, vJ, vJ, vJ, vJ, vJ], ob := [(0, AO.box [vS a0, vS a1, vS a2, vS a3, vS a4, vS a5, vS a6, vS a7]), (1, AO.box [vS b0, vS b1, vS b2, vS b3, vS b4, vS b5, vS b6, vS b7])], nx := 1000000, ps := [] })) := by kernel_rfl
theorem b215_2 (L : Lp) (R : Option Res → Prop) (N : St → Prop) (a0 a1 a2 a3 a4 a5 a6 a7 b0 b1 b2 b3 b4 b5 b6 b7 : ByteArray) : (evP E215 G215 L (lp215 2) (st215 a0 a1 a2 a3 a4 a5 a6 a7 b0 b1 b2 b3 b4 b5 b6 b7 2) (rk215 L R 2 N)) = (
    br (!strEq a2 b2) (R (some { av := vB false, obs := [], outs := [] })) (N { tm := [AV.agg [vS a0, vS a1, vS a2, vS a3, vS a4, vS a5, vS a6, vS a7], AV.agg [vS b0, vS b1, vS b2, vS b3, vS b4, vS b5, vS b6, vS b7], AV.ptr 0 0, AV.ptr 1 0, vB false, vI 3, vJ, vJ, vJ, vJ, vJ, vJ, vJ, vJ, vJ, vJ, vJ], ob := [(0, AO.box [vS a0, vS a1, vS a2, vS a3, vS a4, vS a5, vS a6, vS a7]), (1, AO.box [vS b0, vS b1, vS b2, vS b3, vS b4, vS b5, vS b6, vS b7])], nx := 1000000, ps := [] })) := by kernel_rfl
theorem b215_3 (L : Lp) (R : Option Res → Prop) (N : St → Prop) (a0 a1 a2 a3 a4 a5 a6 a7 b0 b1 b2 b3 b4 b5 b6 b7 : ByteArray) : (evP E215 G215 L (lp215 2) (st215 a0 a1 a2 a3 a4 a5 a6 a7 b0 b1 b2 b3 b4 b5 b6 b7 3) (rk215 L R 2 N)) = (
    br (!strEq a3 b3) (R (some { av := vB false, obs := [], outs := [] })) (N { tm := [AV.agg [vS a0, vS a1, vS a2, vS a3, vS a4, vS a5, vS a6, vS a7], AV.agg [vS b0, vS b1, vS b2, vS b3, vS b4, vS b5, vS b6, vS b7], AV.ptr 0 0, AV.ptr 1 0, vB false, vI 4, vJ, vJ, vJ, vJ, vJ, vJ, vJ, vJ, vJ, vJ, vJ], ob := [(0, AO.box [vS a0, vS a1, vS a2, vS a3, vS a4, vS a5, vS a6, vS a7]), (1, AO.box [vS b0, vS b1, vS b2, vS b3, vS b4, vS b5, vS b6, vS b7])], nx := 1000000, ps := [] })) := by kernel_rfl
theorem b215_4 (L : Lp) (R : Option Res → Prop) (N : St → Prop) (a0 a1 a2 a3 a4 a5 a6 a7 b0 b1 b2 b3 b4 b5 b6 b7 : ByteArray) : (evP E215 G215 L (lp215 2) (st215 a0 a1 a2 a3 a4 a5 a6 a7 b0 b1 b2 b3 b4 b5 b6 b7 4) (rk215 L R 2 N)) = (
    br (!strEq a4 b4) (R (some { av := vB false, obs := [], outs := [] })) (N { tm := [AV.agg [vS a0, vS a1, vS a2, vS a3, vS a4, vS a5, vS a6, vS a7], AV.agg [vS b0, vS b1, vS b2, vS b3, vS b4, vS b5, vS b6, vS b7], AV.ptr 0 0, AV.ptr 1 0, vB false, vI 5, vJ, vJ, vJ, vJ, vJ, vJ, vJ, vJ, vJ, vJ, vJ], ob := [(0, AO.box [vS a0, vS a1, vS a2, vS a3, vS a4, vS a5, vS a6, vS a7]), (1, AO.box [vS b0, vS b1, vS b2, vS b3, vS b4, vS b5, vS b6, vS b7])], nx := 1000000, ps := [] })) := by kernel_rfl
theorem b215_5 (L : Lp) (R : Option Res → Prop) (N : St → Prop) (a0 a1 a2 a3 a4 a5 a6 a7 b0 b1 b2 b3 b4 b5 b6 b7 : ByteArray) : (evP E215 G215 L (lp215 2) (st215 a0 a1 a2 a3 a4 a5 a6 a7 b0 b1 b2 b3 b4 b5 b6 b7 5) (rk215 L R 2 N)) = (
    br (!strEq a5 b5) (R (some { av := vB false, obs := [], outs := [] })) (N { tm := [AV.agg [vS a0, vS a1, vS a2, vS a3, vS a4, vS a5, vS a6, vS a7], AV.agg [vS b0, vS b1, vS b2, vS b3, vS b4, vS b5, vS b6, vS b7], AV.ptr 0 0, AV.ptr 1 0, vB false, vI 6, vJ, vJ, vJ, vJ, vJ, vJ, vJ, vJ, vJ, vJ, vJ], ob := [(0, AO.box [vS a0, vS a1, vS a2, vS a3, vS a4, vS a5, vS a6, vS a7]), (1, AO.box [vS b0, vS b1, vS b2, vS b3, vS b4, vS b5, vS b6, vS b7])], nx := 1000000, ps := [] })) := by kernel_rfl
theorem b215_6 (L : Lp) (R : Option Res → Prop) (N : St → Prop) (a0 a1 a2 a3 a4 a5 a6 a7 b0 b1 b2 b3 b4 b5 b6 b7 : ByteArray) : (evP E215 G215 L (lp215 2) (st215 a0 a1 a2 a3 a4 a5 a6 a7 b0 b1 b2 b3 b4 b5 b6 b7 6) (rk215 L R 2 N)) = (
    br (!strEq a6 b6) (R (some { av := vB false, obs := [], outs := [] })) (N { tm := [AV.agg [vS a0, vS a1, vS a2, vS a3, vS a4, vS a5, vS a6, vS a7], AV.agg [vS b0, vS b1, vS b2, vS b3, vS b4, vS b5, vS b6, vS b7], AV.ptr 0 0, AV.ptr 1 0, vB false, vI 7, vJ, vJ, vJ, vJ, vJ, vJ, vJ, vJ, vJ, vJ, vJ], ob := [(0, AO.box [vS a0, vS a1, vS a2, vS a3, vS a4, vS a5, vS a6, vS a7]), (1, AO.box [vS b0, vS b1, vS b2, vS b3, vS b4, vS b5, vS b6, vS b7])], nx := 1000000, ps := [] })) := by kernel_rfl
theorem b215_7 (L : Lp) (R : Option Res → Prop) (N : St → Prop) (a0 a1 a2 a3 a4 a5 a6 a7 b0 b1 b2 b3 b4 b5 b6 b7 : ByteArray) : (evP E215 G215 L (lp215 2) (st215 a0 a1 a2 a3 a4 a5 a6 a7 b0 b1 b2 b3 b4 b5 b6 b7 7) (rk215 L R 2 N)) = (
    br (!strEq a7 b7) (R (some { av := vB false, obs := [], outs := [] })) (N { tm := [AV.agg [vS a0, vS a1, vS a2, vS a3, vS a4, vS a5, vS a6, vS a7], AV.agg [vS b0, vS b1, vS b2, vS b3, vS b4, vS b5, vS b6, vS b7], AV.ptr 0 0, AV.ptr 1 0, vB false, vI 8, vJ, vJ, vJ, vJ, vJ, vJ, vJ, vJ, vJ, vJ, vJ], ob := [(0, AO.box [vS a0, vS a1, vS a2, vS a3, vS a4, vS a5, vS a6, vS a7]), (1, AO.box [vS b0, vS b1, vS b2, vS b3, vS b4, vS b5, vS b6, vS b7])], nx := 1000000, ps := [] })) := by kernel_rfl
theorem b215_8 (L : Lp) (R : Option Res → Prop) (N : St → Prop) (a0 a1 a2 a3 a4 a5 a6 a7 b0 b1 b2 b3 b4 b5 b6 b7 : ByteArray) : (evP E215 G215 L (lp215 2) (st215 a0 a1 a2 a3 a4 a5 a6 a7 b0 b1 b2 b3 b4 b5 b6 b7 8) (rk215 L R 2 N)) = (
    R (some { av := vB true, obs := [], outs := [] })) := by kernel_rfl
def p215 (a0 a1 a2 a3 a4 a5 a6 a7 b0 b1 b2 b3 b4 b5 b6 b7 : ByteArray) : Nat → Bool
  | 0 => strEq a0 b0
  | 1 => strEq a1 b1
  | 2 => strEq a2 b2
  | 3 => strEq a3 b3
  | 4 => strEq a4 b4
  | 5 => strEq a5 b5
  | 6 => strEq a6 b6
  | _ => strEq a7 b7
theorem p215_all (a0 a1 a2 a3 a4 a5 a6 a7 b0 b1 b2 b3 b4 b5 b6 b7 : ByteArray) : allB 8 (p215 a0 a1 a2 a3 a4 a5 a6 a7 b0 b1 b2 b3 b4 b5 b6 b7) = elemEq k8 (a0, a1, a2, a3, a4, a5, a6, a7, ()) (b0, b1, b2, b3, b4, b5, b6, b7, ()) := by
  simp [allB, show List.range 8 = [0, 1, 2, 3, 4, 5, 6, 7] from rfl, p215, elemEq, ckEq]
theorem h215 : G1Ok Tryz.prog 215 g215 := by
  intro args obs k h
  unfold g215 at h
  split at h
  · rename_i k a0 a1 a2 a3 a4 a5 a6 a7 b0 b1 b2 b3 b4 b5 b6 b7
    refine ⟨_, ctr_fn ok0 hg215 Tryz.func215 (by kernel_rfl) (by kernel_rfl) (by kernel_rfl) fun C => ?_, h⟩
    rw [e215]
    refine loopAll okf215 hg215 (st215 a0 a1 a2 a3 a4 a5 a6 a7 b0 b1 b2 b3 b4 b5 b6 b7) 8 (p215 a0 a1 a2 a3 a4 a5 a6 a7 b0 b1 b2 b3 b4 b5 b6 b7) (by omega) (fun N i hi hw next fails done => ?_)
    rw [p215_all] at fails done
    have cs : i = 0 ∨ i = 1 ∨ i = 2 ∨ i = 3 ∨ i = 4 ∨ i = 5 ∨ i = 6 ∨ i = 7 ∨ i = 8 := by omega
    rcases cs with rfl | rfl | rfl | rfl | rfl | rfl | rfl | rfl | rfl
    · show evP E215 G215 _ (lp215 2) (st215 a0 a1 a2 a3 a4 a5 a6 a7 b0 b1 b2 b3 b4 b5 b6 b7 0) (rk215 _ _ 2 _)
      rw [b215_0]
      refine br_not (fun h => ?_) (fun h => ?_)
      · show _ = _
        rw [fails (by omega) h]
      · exact next (by omega) h
    · show evP E215 G215 _ (lp215 2) (st215 a0 a1 a2 a3 a4 a5 a6 a7 b0 b1 b2 b3 b4 b5 b6 b7 1) (rk215 _ _ 2 _)
      rw [b215_1]
      refine br_not (fun h => ?_) (fun h => ?_)
      · show _ = _
        rw [fails (by omega) h]
      · exact next (by omega) h
    · show evP E215 G215 _ (lp215 2) (st215 a0 a1 a2 a3 a4 a5 a6 a7 b0 b1 b2 b3 b4 b5 b6 b7 2) (rk215 _ _ 2 _)
      rw [b215_2]
      refine br_not (fun h => ?_) (fun h => ?_)
      · show _ = _
        rw [fails (by omega) h]
      · exact next (by omega) h
    · show evP E215 G215 _ (lp215 2) (st215 a0 a1 a2 a3 a4 a5 a6 a7 b0 b1 b2 b3 b4 b5 b6 b7 3) (rk215 _ _ 2 _)
      rw [b215_3]
      refine br_not (fun h => ?_) (fun h => ?_)
      · show _ = _
        rw [fails (by omega) h]
      · exact next (by omega) h
    · show evP E215 G215 _ (lp215 2) (st215 a0 a1 a2 a3 a4 a5 a6 a7 b0 b1 b2 b3 b4 b5 b6 b7 4) (rk215 _ _ 2 _)
      rw [b215_4]
      refine br_not (fun h => ?_) (fun h => ?_)
      · show _ = _
        rw [fails (by omega) h]
      · exact next (by omega) h
    · show evP E215 G215 _ (lp215 2) (st215 a0 a1 a2 a3 a4 a5 a6 a7 b0 b1 b2 b3 b4 b5 b6 b7 5) (rk215 _ _ 2 _)
      rw [b215_5]
      refine br_not (fun h => ?_) (fun h => ?_)
      · show _ = _
        rw [fails (by omega) h]
      · exact next (by omega) h
    · show evP E215 G215 _ (lp215 2) (st215 a0 a1 a2 a3 a4 a5 a6 a7 b0 b1 b2 b3 b4 b5 b6 b7 6) (rk215 _ _ 2 _)
      rw [b215_6]
      refine br_not (fun h => ?_) (fun h => ?_)
      · show _ = _
        rw [fails (by omega) h]
      · exact next (by omega) h
    · show evP E215 G215 _ (lp215 2) (st215 a0 a1 a2 a3 a4 a5 a6 a7 b0 b1 b2 b3 b4 b5 b6 b7 7) (rk215 _ _ 2 _)
      rw [b215_7]
      refine br_not (fun h => ?_) (fun h => ?_)
      · show _ = _
        rw [fails (by omega) h]
      · exact next (by omega) h
    · show evP E215 G215 _ (lp215 2) (st215 a0 a1 a2 a3 a4 a5 a6 a7 b0 b1 b2 b3 b4 b5 b6 b7 8) (rk215 _ _ 2 _)
      rw [b215_8]
      show _ = _
      rw [done (by omega)]
  · exact h.elim
def g158 : G1
  | [.agg [.val (.string a0), .val (.int .i64 a1), .val (.string a2), .val (.string a3), .val (.string a4), .val (.string a5), .val (.string a6), .val (.string a7), .val (.string a8), .val (.string a9), .val (.string a10)], .agg [.val (.string b0), .val (.int .i64 b1), .val (.string b2), .val (.string b3), .val (.string b4), .val (.string b5), .val (.string b6), .val (.string b7), .val (.string b8), .val (.string b9), .val (.string b10)]], [], k => k ⟨.val (.bool (elemEq kb (a0, a1, a2, a3, a4, a5, a6, a7, a8, a9, a10, ()) (b0, b1, b2, b3, b4, b5, b6, b7, b8, b9, b10, ()))), [], []⟩
  | _, _, _ => False
noncomputable def E158 : Env := E0.of Tryz.f158
noncomputable def G158 : Gk := gk [(215, g215)]
noncomputable def lp158 (n : Nat) : Code := (loopOf n (codeOf Tryz.f158)).getD .skip
noncomputable def ct158 (L : Lp) (R : Option Res → Prop) (n : Nat) : Kt := contOf E158 G158 L n (codeOf Tryz.f158) (endK E158 Tryz.f158.results.toList R)
noncomputable def rk158 (L : Lp) (R : Option Res → Prop) (n : Nat) (N : St → Prop) : Kt := rk (jof E158 (lp158 n)) N (ct158 L R n)
noncomputable def rkn158 (L : Lp) (R : Option Res → Prop) (n : Nat) (N : St → Prop) (m : Nat) (N2 : St → Prop) : Kt := rk (jof E158 (lp158 m)) N2 (contOf E158 G158 L m (lp158 n) (rk158 L R n N))
noncomputable def LOOPN158 (L : Lp) (R : Option Res → Prop) (n : Nat) (N : St → Prop) (m : Nat) (st : St) : Prop := L (lp158 m) st (contOf E158 G158 L m (lp158 n) (rk158 L R n N))
noncomputable def LOOP158 (L : Lp) (R : Option Res → Prop) (n : Nat) (st : St) : Prop := L (lp158 n) st (ct158 L R n)
theorem hg158 : HG Tryz.prog G158 := (hg_cons h215 hg_nil)
theorem okf158 : Ok Tryz.prog E158 := ok0.of Tryz.f158
theorem e158 (L : Lp) (R : Option Res → Prop) (a0 : ByteArray) (a1 : Int) (a2 : ByteArray) (a3 : ByteArray) (a4 : ByteArray) (a5 : ByteArray) (a6 : ByteArray) (a7 : ByteArray) (a8 : ByteArray) (a9 : ByteArray) (a10 : ByteArray) (b0 : ByteArray) (b1 : Int) (b2 : ByteArray) (b3 : ByteArray) (b4 : ByteArray) (b5 : ByteArray) (b6 : ByteArray) (b7 : ByteArray) (b8 : ByteArray) (b9 : ByteArray) (b10 : ByteArray) : (bodyP E0 G158 L Tryz.f158 [.agg [.val (.string a0), .val (.int .i64 a1), .val (.string a2), .val (.string a3), .val (.string a4), .val (.string a5), .val (.string a6), .val (.string a7), .val (.string a8), .val (.string a9), .val (.string a10)], .agg [.val (.string b0), .val (.int .i64 b1), .val (.string b2), .val (.string b3), .val (.string b4), .val (.string b5), .val (.string b6), .val (.string b7), .val (.string b8), .val (.string b9), .val (.string b10)]] [] R) = (
    br (!strEq a0 b0) (R (some { av := vB false, obs := [], outs := [] })) (br (a1 != b1) (R (some { av := vB false, obs := [], outs := [] })) (br (!strEq a2 b2) (R (some { av := vB false, obs := [], outs := [] })) (br (!elemEq k8 (a3, a4, a5, a6, a7, a8, a9, a10, ()) (b3, b4, b5, b6, b7, b8, b9, b10, ())) (R (some { av := vB false, obs := [], outs := [] })) (R (some { av := vB true, obs := [], outs := [] })))))) := by kernel_rfl
theorem h158 : G1Ok Tryz.prog 158 g158 := by
  intro args obs k h
  unfold g158 at h
  split at h
  · rename_i k a0 a1 a2 a3 a4 a5 a6 a7 a8 a9 a10 b0 b1 b2 b3 b4 b5 b6 b7 b8 b9 b10
    refine ⟨_, ctr_fn ok0 hg158 Tryz.func158 (by kernel_rfl) (by kernel_rfl) (by kernel_rfl) fun C => ?_, h⟩
    rw [e158]
    repeat' (first | refine br_intro (fun h => ?_) (fun h => ?_))
    all_goals simp_all [elemEq, ckEq]
    all_goals grind
  · exact h.elim
def g86 : G1
  | [.rsl [.str, .int .i64, .str, .str, .str, .str, .str, .str, .str, .str, .str] xs, .rsl [.str, .int .i64, .str, .str, .str, .str, .str, .str, .str, .str, .str] ys], [], k => br (decide (xs.length ≤ 1048576)) (k ⟨.val (.bool (eqR kb xs ys)), [], []⟩) False
  | _, _, _ => False
noncomputable def E86 : Env := E0.of Tryz.f86
noncomputable def G86 : Gk := gk [(158, g158)]
noncomputable def lp86 (n : Nat) : Code := (loopOf n (codeOf Tryz.f86)).getD .skip
noncomputable def ct86 (L : Lp) (R : Option Res → Prop) (n : Nat) : Kt := contOf E86 G86 L n (codeOf Tryz.f86) (endK E86 Tryz.f86.results.toList R)
noncomputable def rk86 (L : Lp) (R : Option Res → Prop) (n : Nat) (N : St → Prop) : Kt := rk (jof E86 (lp86 n)) N (ct86 L R n)
noncomputable def rkn86 (L : Lp) (R : Option Res → Prop) (n : Nat) (N : St → Prop) (m : Nat) (N2 : St → Prop) : Kt := rk (jof E86 (lp86 m)) N2 (contOf E86 G86 L m (lp86 n) (rk86 L R n N))
noncomputable def LOOPN86 (L : Lp) (R : Option Res → Prop) (n : Nat) (N : St → Prop) (m : Nat) (st : St) : Prop := L (lp86 m) st (contOf E86 G86 L m (lp86 n) (rk86 L R n N))
noncomputable def LOOP86 (L : Lp) (R : Option Res → Prop) (n : Nat) (st : St) : Prop := L (lp86 n) st (ct86 L R n)
theorem hg86 : HG Tryz.prog G86 := (hg_cons h158 hg_nil)
theorem okf86 : Ok Tryz.prog E86 := ok0.of Tryz.f86
theorem e86 (L : Lp) (R : Option Res → Prop) (xs ys : List (Elem kb)) : (bodyP E0 G86 L Tryz.f86 [.rsl kb xs, .rsl kb ys] [] R) = (
    br ((↑xs.length : Int) != (↑ys.length : Int)) (R (some { av := vB false, obs := [], outs := [] })) (LOOP86 L R 4 { tm := [AV.rsl kb xs, AV.rsl kb ys, vU, vU, vB false, vI 0, vJ, vJ, vJ, vJ, vJ, vJ, vJ, vJ, vJ, vJ, vJ, vJ, vJ, vJ, vJ, vJ, vJ, vJ, vJ, vJ, vJ], ob := [], nx := 1000000, ps := [] })) := by kernel_rfl
def st86 (xs ys : List (Elem kb)) (i : Int) : St :=  ⟨[AV.rsl kb xs, AV.rsl kb ys, vU, vU, vB false, .val (.int .i64 i), vJ, vJ, vJ, vJ, vJ, vJ, vJ, vJ, vJ, vJ, vJ, vJ, vJ, vJ, vJ, vJ, vJ, vJ, vJ, vJ, vJ], [], 1000000, []⟩
theorem b86 (L : Lp) (R : Option Res → Prop) (N : St → Prop) (xs ys : List (Elem kb)) (i : Int) : (evP E86 G86 L (lp86 4) (st86 xs ys i) (rk86 L R 4 N)) = (
    br (decide (i < (↑xs.length : Int))) (br (decide (0 ≤ i ∧ i < (↑xs.length : Int))) (br (decide (0 ≤ i ∧ i < (↑ys.length : Int))) (br (!elemEq kb (xs.getD i.toNat (edflt kb)) (ys.getD i.toNat (edflt kb))) (R (some { av := vB false, obs := [], outs := [] })) (N { tm := [AV.rsl kb xs, AV.rsl kb ys, vU, vU, vB false, vI (IntKind.i64.wrap (i + 1)), vJ, vJ, vJ, vJ, vJ, vJ, vJ, vJ, vJ, vJ, vJ, vJ, vJ, vJ, vJ, vJ, vJ, vJ, vJ, vJ, vJ], ob := [], nx := 1000000, ps := [] })) False) False) (R (some { av := vB true, obs := [], outs := [] }))) := by kernel_rfl
theorem h86 : G1Ok Tryz.prog 86 g86 := by
  intro args obs k h
  unfold g86 at h
  split at h
  · rename_i k xs ys
    obtain ⟨hlen, h⟩ := brd h
    refine ⟨_, ctr_fn ok0 hg86 Tryz.func86 (by kernel_rfl) (by kernel_rfl) (by kernel_rfl) fun C => ?_, h⟩
    rw [e86]
    refine br_intro (fun hb => ?_) (fun hb => ?_)
    · show _ = _
      rw [show eqR kb xs ys = false from eqL_len (fun e => by rw [e] at hb; simp at hb)]
    have hl : xs.length = ys.length := by simp at hb; omega
    exact loopAll okf86 hg86 (fun i => st86 xs ys i) xs.length (fun i => elemEq kb (xs.getD i (edflt kb)) (ys.getD i (edflt kb))) (by omega) (fun N i hi hw next fails done => by
      show evP E86 G86 _ (lp86 4) (st86 xs ys i) (rk86 _ _ 4 _)
      rw [b86, hw, Int.toNat_natCast]
      refine br_dec (fun h2 => br_yes ⟨by omega, h2⟩ (br_yes ⟨by omega, by omega⟩ (br_not (fun h3 => ?_) (fun h3 => ?_)))) (fun h2 => ?_)
      · show _ = _
        rw [show eqR kb xs ys = false from (eqL_of hl).trans (fails (by omega) h3)]
      · exact next (by omega) h3
      · show _ = _
        rw [show eqR kb xs ys = true from (eqL_of hl).trans (done (by omega))])
  · exact h.elim
noncomputable def E30 : Env := E0.of Tryz.f30
noncomputable def G30 : Gk := gk [(86, g86)]
noncomputable def lp30 (n : Nat) : Code := (loopOf n (codeOf Tryz.f30)).getD .skip
noncomputable def ct30 (L : Lp) (R : Option Res → Prop) (n : Nat) : Kt := contOf E30 G30 L n (codeOf Tryz.f30) (endK E30 Tryz.f30.results.toList R)
noncomputable def rk30 (L : Lp) (R : Option Res → Prop) (n : Nat) (N : St → Prop) : Kt := rk (jof E30 (lp30 n)) N (ct30 L R n)
noncomputable def rkn30 (L : Lp) (R : Option Res → Prop) (n : Nat) (N : St → Prop) (m : Nat) (N2 : St → Prop) : Kt := rk (jof E30 (lp30 m)) N2 (contOf E30 G30 L m (lp30 n) (rk30 L R n N))
noncomputable def LOOPN30 (L : Lp) (R : Option Res → Prop) (n : Nat) (N : St → Prop) (m : Nat) (st : St) : Prop := L (lp30 m) st (contOf E30 G30 L m (lp30 n) (rk30 L R n N))
noncomputable def LOOP30 (L : Lp) (R : Option Res → Prop) (n : Nat) (st : St) : Prop := L (lp30 n) st (ct30 L R n)
theorem hg30 : HG Tryz.prog G30 := (hg_cons h86 hg_nil)
theorem okf30 : Ok Tryz.prog E30 := ok0.of Tryz.f30
theorem e30 (L : Lp) (R : Option Res → Prop) (xs ys : List (Elem kb)) : (bodyP E0 G30 L Tryz.f30 [.agg [.rsl kb xs], .agg [.rsl kb ys]] [] R) = (
    br (decide (xs.length ≤ 1048576)) (br (!eqR kb xs ys) (R (some { av := vB false, obs := [], outs := [] })) (R (some { av := vB true, obs := [], outs := [] }))) False) := by kernel_rfl
theorem h30 : G1Ok Tryz.prog 30 g30 := by
  intro args obs k h
  unfold g30 at h
  split at h
  · rename_i k xs ys
    obtain ⟨hlen, h⟩ := brd h
    refine ⟨_, ctr_fn ok0 hg30 Tryz.func30 (by kernel_rfl) (by kernel_rfl) (by kernel_rfl) fun C => ?_, h⟩
    rw [e30]
    refine br_yes hlen (br_not (fun h => ?_) (fun h => ?_)) <;> rw [h]
  · exact h.elim
end Go.Proofs.YtkjnijddbiconaaGreatDoor.Ev

