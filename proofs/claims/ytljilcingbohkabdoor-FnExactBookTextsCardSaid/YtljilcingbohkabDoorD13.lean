/- Contracts for books: copies, equality. -/
import Derived.Test.YtljilcingbohkabDoorD12
namespace Go.Proofs.YtljilcingbohkabDoor.Ev
open Go
set_option linter.unusedVariables false
set_option linter.unusedSimpArgs false
set_option maxRecDepth 100000
def g161 : G1
  | [.agg [.val (.string a0), .val (.string a1), .val (.string a2), .val (.string a3), .val (.string a4), .val (.string a5), .val (.string a6), .val (.string a7)]], [], k =>
    k ⟨s8 a0 a1 a2 a3 a4 a5 a6 a7, [], []⟩
  | _, _, _ => False
abbrev k8 : List CK := [.str, .str, .str, .str, .str, .str, .str, .str]
def g173 : G1
  | [.agg [.val (.string a0), .val (.string a1), .val (.string a2), .val (.string a3), .val (.string a4), .val (.string a5), .val (.string a6), .val (.string a7)], .agg [.val (.string b0), .val (.string b1), .val (.string b2), .val (.string b3), .val (.string b4), .val (.string b5), .val (.string b6), .val (.string b7)]], [], k =>
    k ⟨.val (.bool (elemEq k8 (a0, a1, a2, a3, a4, a5, a6, a7, ()) (b0, b1, b2, b3, b4, b5, b6, b7, ()))), [], []⟩
  | _, _, _ => False
def eqR (cs : List CK) (xs ys : List (Elem cs)) : Bool := eqL (elemEq cs) (edflt cs) xs ys
def g26 : G1
  | [.agg [.rsl [.str, .int .i64, .str, .str, .str, .str, .str, .str, .str, .str, .str] xs]], [], k => br (decide (xs.length ≤ 1048576)) (k ⟨.agg [.ows 0], [.row kb xs], []⟩) False
  | _, _, _ => False
def g29 : G1
  | [.agg [.rsl [.str, .int .i64, .str, .str, .str, .str, .str, .str, .str, .str, .str] xs], .agg [.rsl [.str, .int .i64, .str, .str, .str, .str, .str, .str, .str, .str, .str] ys]], [], k => br (decide (xs.length ≤ 1048576)) (k ⟨.val (.bool (eqR kb xs ys)), [], []⟩) False
  | _, _, _ => False
theorem ckEq_self : ∀ (c : CK) (a : c.T), ckEq c a a = true
  | .int _, a => by simp [ckEq]
  | .str, a => by simp [ckEq, strEq]
  | .bool, a => by simp [ckEq]
theorem elemEq_self : ∀ (cs : List CK) (a : Elem cs), elemEq cs a a = true
  | [], _ => rfl
  | [c], a => ckEq_self c a.1
  | c :: c' :: cs, a => by
    show (ckEq c a.1 a.1 && elemEq (c' :: cs) a.2 a.2) = true
    rw [ckEq_self, elemEq_self]
    rfl
theorem eqR_self (cs : List CK) (xs : List (Elem cs)) : eqR cs xs xs = true := eqL_self (elemEq_self cs) xs
noncomputable def E161 : Env := E0.of Tryd.f161
noncomputable def G161 : Gk := gk []
noncomputable def lp161 (n : Nat) : Code := (loopOf n (codeOf Tryd.f161)).getD .skip
noncomputable def ct161 (L : Lp) (R : Option Res → Prop) (n : Nat) : Kt := contOf E161 G161 L n (codeOf Tryd.f161) (endK E161 Tryd.f161.results.toList R)
noncomputable def rk161 (L : Lp) (R : Option Res → Prop) (n : Nat) (N : St → Prop) : Kt := rk (jof E161 (lp161 n)) N (ct161 L R n)
noncomputable def rkn161 (L : Lp) (R : Option Res → Prop) (n : Nat) (N : St → Prop) (m : Nat) (N2 : St → Prop) : Kt := rk (jof E161 (lp161 m)) N2 (contOf E161 G161 L m (lp161 n) (rk161 L R n N))
noncomputable def LOOPN161 (L : Lp) (R : Option Res → Prop) (n : Nat) (N : St → Prop) (m : Nat) (st : St) : Prop := L (lp161 m) st (contOf E161 G161 L m (lp161 n) (rk161 L R n N))
noncomputable def LOOP161 (L : Lp) (R : Option Res → Prop) (n : Nat) (st : St) : Prop := L (lp161 n) st (ct161 L R n)
theorem hg161 : HG Tryd.prog G161 := hg_nil
theorem okf161 : Ok Tryd.prog E161 := ok0.of Tryd.f161
theorem e161 (L : Lp) (R : Option Res → Prop) (a0 a1 a2 a3 a4 a5 a6 a7 : ByteArray) : (bodyP E0 G161 L Tryd.f161 [s8 a0 a1 a2 a3 a4 a5 a6 a7] [] R) = (
    LOOP161 L R 3 { tm := [AV.agg [vS a0, vS a1, vS a2, vS a3, vS a4, vS a5, vS a6, vS a7], AV.ptr 0 0, AV.ptr 1 0, AV.ptr 2 0, vI 0, vJ, vJ, vJ, vJ, vJ, vJ, vJ, vJ, vJ, vU], ob := [(0, AO.box [vS a0, vS a1, vS a2, vS a3, vS a4, vS a5, vS a6, vS a7]), (1, AO.box [vS ByteArray.empty, vS ByteArray.empty, vS ByteArray.empty, vS ByteArray.empty, vS ByteArray.empty, vS ByteArray.empty, vS ByteArray.empty, vS ByteArray.empty]), (2, AO.box [vS ByteArray.empty, vS ByteArray.empty, vS ByteArray.empty, vS ByteArray.empty, vS ByteArray.empty, vS ByteArray.empty, vS ByteArray.empty, vS ByteArray.empty])], nx := 1000000, ps := [] }) := by kernel_rfl
def st161 (a0 a1 a2 a3 a4 a5 a6 a7 : ByteArray) (i : Int) (b0 b1 b2 b3 b4 b5 b6 b7 : ByteArray) : St :=  ⟨[AV.agg [vS a0, vS a1, vS a2, vS a3, vS a4, vS a5, vS a6, vS a7], AV.ptr 0 0, AV.ptr 1 0, AV.ptr 2 0, .val (.int .i64 i), vJ, vJ, vJ, vJ, vJ, vJ, vJ, vJ, vJ, vU], [(0, AO.box [vS a0, vS a1, vS a2, vS a3, vS a4, vS a5, vS a6, vS a7]), (1, AO.box [vS ByteArray.empty, vS ByteArray.empty, vS ByteArray.empty, vS ByteArray.empty, vS ByteArray.empty, vS ByteArray.empty, vS ByteArray.empty, vS ByteArray.empty]), (2, .box [.val (.string b0), .val (.string b1), .val (.string b2), .val (.string b3), .val (.string b4), .val (.string b5), .val (.string b6), .val (.string b7)])], 1000000, []⟩
theorem b161_0 (L : Lp) (R : Option Res → Prop) (N : St → Prop) (a0 a1 a2 a3 a4 a5 a6 a7 : ByteArray) : (evP E161 G161 L (lp161 3) (st161 a0 a1 a2 a3 a4 a5 a6 a7 0 ByteArray.empty ByteArray.empty ByteArray.empty ByteArray.empty ByteArray.empty ByteArray.empty ByteArray.empty ByteArray.empty) (rk161 L R 3 N)) = (
    N { tm := [AV.agg [vS a0, vS a1, vS a2, vS a3, vS a4, vS a5, vS a6, vS a7], AV.ptr 0 0, AV.ptr 1 0, AV.ptr 2 0, vI 1, vJ, vJ, vJ, vJ, vJ, vJ, vJ, vJ, vJ, vU], ob := [(0, AO.box [vS a0, vS a1, vS a2, vS a3, vS a4, vS a5, vS a6, vS a7]), (1, AO.box [vS ByteArray.empty, vS ByteArray.empty, vS ByteArray.empty, vS ByteArray.empty, vS ByteArray.empty, vS ByteArray.empty, vS ByteArray.empty, vS ByteArray.empty]), (2, AO.box [vS a0, vS ByteArray.empty, vS ByteArray.empty, vS ByteArray.empty, vS ByteArray.empty, vS ByteArray.empty, vS ByteArray.empty, vS ByteArray.empty])], nx := 1000000, ps := [] }) := by kernel_rfl
theorem b161_1 (L : Lp) (R : Option Res → Prop) (N : St → Prop) (a0 a1 a2 a3 a4 a5 a6 a7 : ByteArray) : (evP E161 G161 L (lp161 3) (st161 a0 a1 a2 a3 a4 a5 a6 a7 1 a0 ByteArray.empty ByteArray.empty ByteArray.empty ByteArray.empty ByteArray.empty ByteArray.empty ByteArray.empty) (rk161 L R 3 N)) = (
    N { tm := [AV.agg [vS a0, vS a1, vS a2, vS a3, vS a4, vS a5, vS a6, vS a7], AV.ptr 0 0, AV.ptr 1 0, AV.ptr 2 0, vI 2, vJ, vJ, vJ, vJ, vJ, vJ, vJ, vJ, vJ, vU], ob := [(0, AO.box [vS a0, vS a1, vS a2, vS a3, vS a4, vS a5, vS a6, vS a7]), (1, AO.box [vS ByteArray.empty, vS ByteArray.empty, vS ByteArray.empty, vS ByteArray.empty, vS ByteArray.empty, vS ByteArray.empty, vS ByteArray.empty, vS ByteArray.empty]), (2, AO.box [vS a0, vS a1, vS ByteArray.empty, vS ByteArray.empty, vS ByteArray.empty, vS ByteArray.empty, vS ByteArray.empty, vS ByteArray.empty])], nx := 1000000, ps := [] }) := by kernel_rfl
theorem b161_2 (L : Lp) (R : Option Res → Prop) (N : St → Prop) (a0 a1 a2 a3 a4 a5 a6 a7 : ByteArray) : (evP E161 G161 L (lp161 3) (st161 a0 a1 a2 a3 a4 a5 a6 a7 2 a0 a1 ByteArray.empty ByteArray.empty ByteArray.empty ByteArray.empty ByteArray.empty ByteArray.empty) (rk161 L R 3 N)) = (
    N { tm := [AV.agg [vS a0, vS a1, vS a2, vS a3, vS a4, vS a5, vS a6, vS a7], AV.ptr 0 0, AV.ptr 1 0, AV.ptr 2 0, vI 3, vJ, vJ, vJ, vJ, vJ, vJ, vJ, vJ, vJ, vU], ob := [(0, AO.box [vS a0, vS a1, vS a2, vS a3, vS a4, vS a5, vS a6, vS a7]), (1, AO.box [vS ByteArray.empty, vS ByteArray.empty, vS ByteArray.empty, vS ByteArray.empty, vS ByteArray.empty, vS ByteArray.empty, vS ByteArray.empty, vS ByteArray.empty]), (2, AO.box [vS a0, vS a1, vS a2, vS ByteArray.empty, vS ByteArray.empty, vS ByteArray.empty, vS ByteArray.empty, vS ByteArray.empty])], nx := 1000000, ps := [] }) := by kernel_rfl
theorem b161_3 (L : Lp) (R : Option Res → Prop) (N : St → Prop) (a0 a1 a2 a3 a4 a5 a6 a7 : ByteArray) : (evP E161 G161 L (lp161 3) (st161 a0 a1 a2 a3 a4 a5 a6 a7 3 a0 a1 a2 ByteArray.empty ByteArray.empty ByteArray.empty ByteArray.empty ByteArray.empty) (rk161 L R 3 N)) = (
    N { tm := [AV.agg [vS a0, vS a1, vS a2, vS a3, vS a4, vS a5, vS a6, vS a7], AV.ptr 0 0, AV.ptr 1 0, AV.ptr 2 0, vI 4, vJ, vJ, vJ, vJ, vJ, vJ, vJ, vJ, vJ, vU], ob := [(0, AO.box [vS a0, vS a1, vS a2, vS a3, vS a4, vS a5, vS a6, vS a7]), (1, AO.box [vS ByteArray.empty, vS ByteArray.empty, vS ByteArray.empty, vS ByteArray.empty, vS ByteArray.empty, vS ByteArray.empty, vS ByteArray.empty, vS ByteArray.empty]), (2, AO.box [vS a0, vS a1, vS a2, vS a3, vS ByteArray.empty, vS ByteArray.empty, vS ByteArray.empty, vS ByteArray.empty])], nx := 1000000, ps := [] }) := by kernel_rfl
theorem b161_4 (L : Lp) (R : Option Res → Prop) (N : St → Prop) (a0 a1 a2 a3 a4 a5 a6 a7 : ByteArray) : (evP E161 G161 L (lp161 3) (st161 a0 a1 a2 a3 a4 a5 a6 a7 4 a0 a1 a2 a3 ByteArray.empty ByteArray.empty ByteArray.empty ByteArray.empty) (rk161 L R 3 N)) = (
    N { tm := [AV.agg [vS a0, vS a1, vS a2, vS a3, vS a4, vS a5, vS a6, vS a7], AV.ptr 0 0, AV.ptr 1 0, AV.ptr 2 0, vI 5, vJ, vJ, vJ, vJ, vJ, vJ, vJ, vJ, vJ, vU], ob := [(0, AO.box [vS a0, vS a1, vS a2, vS a3, vS a4, vS a5, vS a6, vS a7]), (1, AO.box [vS ByteArray.empty, vS ByteArray.empty, vS ByteArray.empty, vS ByteArray.empty, vS ByteArray.empty, vS ByteArray.empty, vS ByteArray.empty, vS ByteArray.empty]), (2, AO.box [vS a0, vS a1, vS a2, vS a3, vS a4, vS ByteArray.empty, vS ByteArray.empty, vS ByteArray.empty])], nx := 1000000, ps := [] }) := by kernel_rfl
theorem b161_5 (L : Lp) (R : Option Res → Prop) (N : St → Prop) (a0 a1 a2 a3 a4 a5 a6 a7 : ByteArray) : (evP E161 G161 L (lp161 3) (st161 a0 a1 a2 a3 a4 a5 a6 a7 5 a0 a1 a2 a3 a4 ByteArray.empty ByteArray.empty ByteArray.empty) (rk161 L R 3 N)) = (
    N { tm := [AV.agg [vS a0, vS a1, vS a2, vS a3, vS a4, vS a5, vS a6, vS a7], AV.ptr 0 0, AV.ptr 1 0, AV.ptr 2 0, vI 6, vJ, vJ, vJ, vJ, vJ, vJ, vJ, vJ, vJ, vU], ob := [(0, AO.box [vS a0, vS a1, vS a2, vS a3, vS a4, vS a5, vS a6, vS a7]), (1, AO.box [vS ByteArray.empty, vS ByteArray.empty, vS ByteArray.empty, vS ByteArray.empty, vS ByteArray.empty, vS ByteArray.empty, vS ByteArray.empty, vS ByteArray.empty]), (2, AO.box [vS a0, vS a1, vS a2, vS a3, vS a4, vS a5, vS ByteArray.empty, vS ByteArray.empty])], nx := 1000000, ps := [] }) := by kernel_rfl
theorem b161_6 (L : Lp) (R : Option Res → Prop) (N : St → Prop) (a0 a1 a2 a3 a4 a5 a6 a7 : ByteArray) : (evP E161 G161 L (lp161 3) (st161 a0 a1 a2 a3 a4 a5 a6 a7 6 a0 a1 a2 a3 a4 a5 ByteArray.empty ByteArray.empty) (rk161 L R 3 N)) = (
    N { tm := [AV.agg [vS a0, vS a1, vS a2, vS a3, vS a4, vS a5, vS a6, vS a7], AV.ptr 0 0, AV.ptr 1 0, AV.ptr 2 0, vI 7, vJ, vJ, vJ, vJ, vJ, vJ, vJ, vJ, vJ, vU], ob := [(0, AO.box [vS a0, vS a1, vS a2, vS a3, vS a4, vS a5, vS a6, vS a7]), (1, AO.box [vS ByteArray.empty, vS ByteArray.empty, vS ByteArray.empty, vS ByteArray.empty, vS ByteArray.empty, vS ByteArray.empty, vS ByteArray.empty, vS ByteArray.empty]), (2, AO.box [vS a0, vS a1, vS a2, vS a3, vS a4, vS a5, vS a6, vS ByteArray.empty])], nx := 1000000, ps := [] }) := by kernel_rfl
theorem b161_7 (L : Lp) (R : Option Res → Prop) (N : St → Prop) (a0 a1 a2 a3 a4 a5 a6 a7 : ByteArray) : (evP E161 G161 L (lp161 3) (st161 a0 a1 a2 a3 a4 a5 a6 a7 7 a0 a1 a2 a3 a4 a5 a6 ByteArray.empty) (rk161 L R 3 N)) = (
    N { tm := [AV.agg [vS a0, vS a1, vS a2, vS a3, vS a4, vS a5, vS a6, vS a7], AV.ptr 0 0, AV.ptr 1 0, AV.ptr 2 0, vI 8, vJ, vJ, vJ, vJ, vJ, vJ, vJ, vJ, vJ, vU], ob := [(0, AO.box [vS a0, vS a1, vS a2, vS a3, vS a4, vS a5, vS a6, vS a7]), (1, AO.box [vS ByteArray.empty, vS ByteArray.empty, vS ByteArray.empty, vS ByteArray.empty, vS ByteArray.empty, vS ByteArray.empty, vS ByteArray.empty, vS ByteArray.empty]), (2, AO.box [vS a0, vS a1, vS a2, vS a3, vS a4, vS a5, vS a6, vS a7])], nx := 1000000, ps := [] }) := by kernel_rfl
theorem b161_8 (L : Lp) (R : Option Res → Prop) (N : St → Prop) (a0 a1 a2 a3 a4 a5 a6 a7 : ByteArray) : (evP E161 G161 L (lp161 3) (st161 a0 a1 a2 a3 a4 a5 a6 a7 8 a0 a1 a2 a3 a4 a5 a6 a7) (rk161 L R 3 N)) = (
    R (some { av := AV.agg [vS a0, vS a1, vS a2, vS a3, vS a4, vS a5, vS a6, vS a7], obs := [], outs := [] })) := by kernel_rfl
def sq161 (a0 a1 a2 a3 a4 a5 a6 a7 : ByteArray) : Nat → St
  | 0 => st161 a0 a1 a2 a3 a4 a5 a6 a7 0 ByteArray.empty ByteArray.empty ByteArray.empty ByteArray.empty ByteArray.empty ByteArray.empty ByteArray.empty ByteArray.empty
  | 1 => st161 a0 a1 a2 a3 a4 a5 a6 a7 1 a0 ByteArray.empty ByteArray.empty ByteArray.empty ByteArray.empty ByteArray.empty ByteArray.empty ByteArray.empty
  | 2 => st161 a0 a1 a2 a3 a4 a5 a6 a7 2 a0 a1 ByteArray.empty ByteArray.empty ByteArray.empty ByteArray.empty ByteArray.empty ByteArray.empty
  | 3 => st161 a0 a1 a2 a3 a4 a5 a6 a7 3 a0 a1 a2 ByteArray.empty ByteArray.empty ByteArray.empty ByteArray.empty ByteArray.empty
  | 4 => st161 a0 a1 a2 a3 a4 a5 a6 a7 4 a0 a1 a2 a3 ByteArray.empty ByteArray.empty ByteArray.empty ByteArray.empty
  | 5 => st161 a0 a1 a2 a3 a4 a5 a6 a7 5 a0 a1 a2 a3 a4 ByteArray.empty ByteArray.empty ByteArray.empty
  | 6 => st161 a0 a1 a2 a3 a4 a5 a6 a7 6 a0 a1 a2 a3 a4 a5 ByteArray.empty ByteArray.empty
  | 7 => st161 a0 a1 a2 a3 a4 a5 a6 a7 7 a0 a1 a2 a3 a4 a5 a6 ByteArray.empty
  | _ => st161 a0 a1 a2 a3 a4 a5 a6 a7 8 a0 a1 a2 a3 a4 a5 a6 a7
theorem h161 : G1Ok Tryd.prog 161 g161 := by
  intro args obs k h
  unfold g161 at h
  split at h
  · rename_i k a0 a1 a2 a3 a4 a5 a6 a7
    refine ⟨_, ctr_fn ok0 hg161 Tryd.func161 (by kernel_rfl) (by kernel_rfl) (by kernel_rfl) fun C => ?_, h⟩
    rw [e161]
    refine loopSeq okf161 hg161 (sq161 a0 a1 a2 a3 a4 a5 a6 a7) 8 (fun N i hi next => ?_) (fun N => ?_)
    · have cs : i = 0 ∨ i = 1 ∨ i = 2 ∨ i = 3 ∨ i = 4 ∨ i = 5 ∨ i = 6 ∨ i = 7 := by omega
      rcases cs with rfl | rfl | rfl | rfl | rfl | rfl | rfl | rfl
      · show evP E161 G161 _ (lp161 3) (st161 a0 a1 a2 a3 a4 a5 a6 a7 0 ByteArray.empty ByteArray.empty ByteArray.empty ByteArray.empty ByteArray.empty ByteArray.empty ByteArray.empty ByteArray.empty) (rk161 _ _ 3 _)
        rw [b161_0]
        exact next
      · show evP E161 G161 _ (lp161 3) (st161 a0 a1 a2 a3 a4 a5 a6 a7 1 a0 ByteArray.empty ByteArray.empty ByteArray.empty ByteArray.empty ByteArray.empty ByteArray.empty ByteArray.empty) (rk161 _ _ 3 _)
        rw [b161_1]
        exact next
      · show evP E161 G161 _ (lp161 3) (st161 a0 a1 a2 a3 a4 a5 a6 a7 2 a0 a1 ByteArray.empty ByteArray.empty ByteArray.empty ByteArray.empty ByteArray.empty ByteArray.empty) (rk161 _ _ 3 _)
        rw [b161_2]
        exact next
      · show evP E161 G161 _ (lp161 3) (st161 a0 a1 a2 a3 a4 a5 a6 a7 3 a0 a1 a2 ByteArray.empty ByteArray.empty ByteArray.empty ByteArray.empty ByteArray.empty) (rk161 _ _ 3 _)
        rw [b161_3]
        exact next
      · show evP E161 G161 _ (lp161 3) (st161 a0 a1 a2 a3 a4 a5 a6 a7 4 a0 a1 a2 a3 ByteArray.empty ByteArray.empty ByteArray.empty ByteArray.empty) (rk161 _ _ 3 _)
        rw [b161_4]
        exact next
      · show evP E161 G161 _ (lp161 3) (st161 a0 a1 a2 a3 a4 a5 a6 a7 5 a0 a1 a2 a3 a4 ByteArray.empty ByteArray.empty ByteArray.empty) (rk161 _ _ 3 _)
        rw [b161_5]
        exact next
      · show evP E161 G161 _ (lp161 3) (st161 a0 a1 a2 a3 a4 a5 a6 a7 6 a0 a1 a2 a3 a4 a5 ByteArray.empty ByteArray.empty) (rk161 _ _ 3 _)
        rw [b161_6]
        exact next
      · show evP E161 G161 _ (lp161 3) (st161 a0 a1 a2 a3 a4 a5 a6 a7 7 a0 a1 a2 a3 a4 a5 a6 ByteArray.empty) (rk161 _ _ 3 _)
        rw [b161_7]
        exact next
    · show evP E161 G161 _ (lp161 3) (st161 a0 a1 a2 a3 a4 a5 a6 a7 8 a0 a1 a2 a3 a4 a5 a6 a7) (rk161 _ _ 3 _)
      rw [b161_8]
  · exact h.elim
def g135 : G1
  | [.agg [.val (.string a0), .val (.int .i64 a1), .val (.string a2), .val (.string a3), .val (.string a4), .val (.string a5), .val (.string a6), .val (.string a7), .val (.string a8), .val (.string a9), .val (.string a10)]], [], k => k ⟨.agg [.val (.string a0), .val (.int .i64 a1), .val (.string a2), .val (.string a3), .val (.string a4), .val (.string a5), .val (.string a6), .val (.string a7), .val (.string a8), .val (.string a9), .val (.string a10)], [], []⟩
  | _, _, _ => False
noncomputable def E135 : Env := E0.of Tryd.f135
noncomputable def G135 : Gk := gk [(161, g161)]
noncomputable def lp135 (n : Nat) : Code := (loopOf n (codeOf Tryd.f135)).getD .skip
noncomputable def ct135 (L : Lp) (R : Option Res → Prop) (n : Nat) : Kt := contOf E135 G135 L n (codeOf Tryd.f135) (endK E135 Tryd.f135.results.toList R)
noncomputable def rk135 (L : Lp) (R : Option Res → Prop) (n : Nat) (N : St → Prop) : Kt := rk (jof E135 (lp135 n)) N (ct135 L R n)
noncomputable def rkn135 (L : Lp) (R : Option Res → Prop) (n : Nat) (N : St → Prop) (m : Nat) (N2 : St → Prop) : Kt := rk (jof E135 (lp135 m)) N2 (contOf E135 G135 L m (lp135 n) (rk135 L R n N))
noncomputable def LOOPN135 (L : Lp) (R : Option Res → Prop) (n : Nat) (N : St → Prop) (m : Nat) (st : St) : Prop := L (lp135 m) st (contOf E135 G135 L m (lp135 n) (rk135 L R n N))
noncomputable def LOOP135 (L : Lp) (R : Option Res → Prop) (n : Nat) (st : St) : Prop := L (lp135 n) st (ct135 L R n)
theorem hg135 : HG Tryd.prog G135 := (hg_cons h161 hg_nil)
theorem okf135 : Ok Tryd.prog E135 := ok0.of Tryd.f135
theorem e135 (L : Lp) (R : Option Res → Prop) (a0 : ByteArray) (a1 : Int) (a2 : ByteArray) (a3 : ByteArray) (a4 : ByteArray) (a5 : ByteArray) (a6 : ByteArray) (a7 : ByteArray) (a8 : ByteArray) (a9 : ByteArray) (a10 : ByteArray) : (bodyP E0 G135 L Tryd.f135 [.agg [.val (.string a0), .val (.int .i64 a1), .val (.string a2), .val (.string a3), .val (.string a4), .val (.string a5), .val (.string a6), .val (.string a7), .val (.string a8), .val (.string a9), .val (.string a10)]] [] R) = (
    R (some { av := AV.agg [vS a0, vI a1, vS a2, vS a3, vS a4, vS a5, vS a6, vS a7, vS a8, vS a9, vS a10], obs := [], outs := [] })) := by kernel_rfl
theorem h135 : G1Ok Tryd.prog 135 g135 := by
  intro args obs k h
  unfold g135 at h
  split at h
  · rename_i k a0 a1 a2 a3 a4 a5 a6 a7 a8 a9 a10
    refine ⟨_, ctr_fn ok0 hg135 Tryd.func135 (by kernel_rfl) (by kernel_rfl) (by kernel_rfl) fun C => ?_, h⟩
    rw [e135]
  · exact h.elim
def g87 : G1
  | [.rsl [.str, .int .i64, .str, .str, .str, .str, .str, .str, .str, .str, .str] xs], [], k => br (decide (xs.length ≤ 1048576)) (k ⟨.ows 0, [.row kb xs], []⟩) False
  | _, _, _ => False
noncomputable def E87 : Env := E0.of Tryd.f87
noncomputable def G87 : Gk := gk [(135, g135)]
noncomputable def lp87 (n : Nat) : Code := (loopOf n (codeOf Tryd.f87)).getD .skip
noncomputable def ct87 (L : Lp) (R : Option Res → Prop) (n : Nat) : Kt := contOf E87 G87 L n (codeOf Tryd.f87) (endK E87 Tryd.f87.results.toList R)
noncomputable def rk87 (L : Lp) (R : Option Res → Prop) (n : Nat) (N : St → Prop) : Kt := rk (jof E87 (lp87 n)) N (ct87 L R n)
noncomputable def rkn87 (L : Lp) (R : Option Res → Prop) (n : Nat) (N : St → Prop) (m : Nat) (N2 : St → Prop) : Kt := rk (jof E87 (lp87 m)) N2 (contOf E87 G87 L m (lp87 n) (rk87 L R n N))
noncomputable def LOOPN87 (L : Lp) (R : Option Res → Prop) (n : Nat) (N : St → Prop) (m : Nat) (st : St) : Prop := L (lp87 m) st (contOf E87 G87 L m (lp87 n) (rk87 L R n N))
noncomputable def LOOP87 (L : Lp) (R : Option Res → Prop) (n : Nat) (st : St) : Prop := L (lp87 n) st (ct87 L R n)
theorem hg87 : HG Tryd.prog G87 := (hg_cons h135 hg_nil)
theorem okf87 : Ok Tryd.prog E87 := ok0.of Tryd.f87
theorem e87 (L : Lp) (R : Option Res → Prop) (xs : List (Elem kb)) : (bodyP E0 G87 L Tryd.f87 [.rsl kb xs] [] R) = (
    br (decide (0 ≤ (↑xs.length : Int) ∧ (↑xs.length : Int) ≤ (↑xs.length : Int) ∧ 168 * (↑xs.length : Int) ≤ 281474976710656)) (LOOP87 L R 3 { tm := [AV.rsl kb xs, vU, AV.ows 0, AV.ows 1, vI 0, vJ, vJ, vJ, vJ, vJ, vJ, vJ, vJ, vJ, vJ, vJ, vJ, vJ, vJ, vJ, vJ, vJ, vU], ob := [(0, AO.row kb []), (1, AO.row kb (List.replicate (↑xs.length : Int).toNat (edflt kb)))], nx := 1000000, ps := [] }) False) := by kernel_rfl
def st87 (xs : List (Elem kb)) (i : Int) (ys : List (Elem kb)) : St :=  ⟨[AV.rsl kb xs, vU, AV.ows 0, AV.ows 1, .val (.int .i64 i), vJ, vJ, vJ, vJ, vJ, vJ, vJ, vJ, vJ, vJ, vJ, vJ, vJ, vJ, vJ, vJ, vJ, vU], [(0, AO.row kb []), (1, .row kb ys)], 1000000, []⟩
theorem b87 (L : Lp) (R : Option Res → Prop) (N : St → Prop) (xs : List (Elem kb)) (i : Int) (ys : List (Elem kb)) : (evP E87 G87 L (lp87 3) (st87 xs i ys) (rk87 L R 3 N)) = (
    br (decide (i < (↑xs.length : Int))) (br (decide (0 ≤ i ∧ i < (↑xs.length : Int))) (br (decide (0 ≤ i ∧ i < (↑ys.length : Int))) (N { tm := [AV.rsl kb xs, vU, AV.ows 0, AV.ows 1, vI (IntKind.i64.wrap (i + 1)), vJ, vJ, vJ, vJ, vJ, vJ, vJ, vJ, vJ, vJ, vJ, vJ, vJ, vJ, vJ, vJ, vJ, vU], ob := [(0, AO.row kb []), (1, AO.row kb (ys.set i.toNat (xs.getD i.toNat (edflt kb))))], nx := 1000000, ps := [] }) False) False) (R (some { av := AV.ows 0, obs := [AO.row kb ys], outs := [] }))) := by kernel_rfl
theorem h87 : G1Ok Tryd.prog 87 g87 := by
  intro args obs k h
  unfold g87 at h
  split at h
  · rename_i k xs
    obtain ⟨hlen, h⟩ := brd h
    refine ⟨_, ctr_fn ok0 hg87 Tryd.func87 (by kernel_rfl) (by kernel_rfl) (by kernel_rfl) fun C => ?_, h⟩
    rw [e87]
    refine br_yes ⟨by omega, by omega, by omega⟩ ?_
    exact loopUp okf87 hg87 (fun i ys => st87 xs i ys) xs.length (Cp xs) (fun N i ys hi hc next => by
      show evP E87 G87 _ (lp87 3) (st87 xs i ys) (rk87 _ _ 3 _)
      rw [b87, wrap_id (n := (i : Int) + 1) (by omega) (by omega), Int.toNat_natCast]
      have hl := hc.len
      refine br_dec (fun h2 => ?_) (fun h2 => ?_)
      · refine br_yes ⟨by omega, h2⟩ (br_yes ⟨by omega, by omega⟩ ?_)
        exact next (by omega) _ (hc.next (by omega))
      · show _ = _
        rw [hc.done (by omega)]) _ (Cp.zero xs _)
  · exact h.elim
noncomputable def E26 : Env := E0.of Tryd.f26
noncomputable def G26 : Gk := gk [(87, g87)]
noncomputable def lp26 (n : Nat) : Code := (loopOf n (codeOf Tryd.f26)).getD .skip
noncomputable def ct26 (L : Lp) (R : Option Res → Prop) (n : Nat) : Kt := contOf E26 G26 L n (codeOf Tryd.f26) (endK E26 Tryd.f26.results.toList R)
noncomputable def rk26 (L : Lp) (R : Option Res → Prop) (n : Nat) (N : St → Prop) : Kt := rk (jof E26 (lp26 n)) N (ct26 L R n)
noncomputable def rkn26 (L : Lp) (R : Option Res → Prop) (n : Nat) (N : St → Prop) (m : Nat) (N2 : St → Prop) : Kt := rk (jof E26 (lp26 m)) N2 (contOf E26 G26 L m (lp26 n) (rk26 L R n N))
noncomputable def LOOPN26 (L : Lp) (R : Option Res → Prop) (n : Nat) (N : St → Prop) (m : Nat) (st : St) : Prop := L (lp26 m) st (contOf E26 G26 L m (lp26 n) (rk26 L R n N))
noncomputable def LOOP26 (L : Lp) (R : Option Res → Prop) (n : Nat) (st : St) : Prop := L (lp26 n) st (ct26 L R n)
theorem hg26 : HG Tryd.prog G26 := (hg_cons h87 hg_nil)
theorem okf26 : Ok Tryd.prog E26 := ok0.of Tryd.f26
theorem e26 (L : Lp) (R : Option Res → Prop) (xs : List (Elem kb)) : (bodyP E0 G26 L Tryd.f26 [.agg [.rsl kb xs]] [] R) = (
    br (decide (xs.length ≤ 1048576)) (R (some { av := AV.agg [AV.ows 0], obs := [AO.row kb xs], outs := [] })) False) := by kernel_rfl
theorem h26 : G1Ok Tryd.prog 26 g26 := by
  intro args obs k h
  unfold g26 at h
  split at h
  · rename_i k xs
    obtain ⟨hlen, h⟩ := brd h
    refine ⟨_, ctr_fn ok0 hg26 Tryd.func26 (by kernel_rfl) (by kernel_rfl) (by kernel_rfl) fun C => ?_, h⟩
    rw [e26]
    exact br_yes hlen rfl
  · exact h.elim
noncomputable def E173 : Env := E0.of Tryd.f173
noncomputable def G173 : Gk := gk []
noncomputable def lp173 (n : Nat) : Code := (loopOf n (codeOf Tryd.f173)).getD .skip
noncomputable def ct173 (L : Lp) (R : Option Res → Prop) (n : Nat) : Kt := contOf E173 G173 L n (codeOf Tryd.f173) (endK E173 Tryd.f173.results.toList R)
noncomputable def rk173 (L : Lp) (R : Option Res → Prop) (n : Nat) (N : St → Prop) : Kt := rk (jof E173 (lp173 n)) N (ct173 L R n)
noncomputable def rkn173 (L : Lp) (R : Option Res → Prop) (n : Nat) (N : St → Prop) (m : Nat) (N2 : St → Prop) : Kt := rk (jof E173 (lp173 m)) N2 (contOf E173 G173 L m (lp173 n) (rk173 L R n N))
noncomputable def LOOPN173 (L : Lp) (R : Option Res → Prop) (n : Nat) (N : St → Prop) (m : Nat) (st : St) : Prop := L (lp173 m) st (contOf E173 G173 L m (lp173 n) (rk173 L R n N))
noncomputable def LOOP173 (L : Lp) (R : Option Res → Prop) (n : Nat) (st : St) : Prop := L (lp173 n) st (ct173 L R n)
theorem hg173 : HG Tryd.prog G173 := hg_nil
theorem okf173 : Ok Tryd.prog E173 := ok0.of Tryd.f173
theorem e173 (L : Lp) (R : Option Res → Prop) (a0 a1 a2 a3 a4 a5 a6 a7 b0 b1 b2 b3 b4 b5 b6 b7 : ByteArray) : (bodyP E0 G173 L Tryd.f173 [s8 a0 a1 a2 a3 a4 a5 a6 a7, s8 b0 b1 b2 b3 b4 b5 b6 b7] [] R) = (
    LOOP173 L R 2 { tm := [AV.agg [vS a0, vS a1, vS a2, vS a3, vS a4, vS a5, vS a6, vS a7], AV.agg [vS b0, vS b1, vS b2, vS b3, vS b4, vS b5, vS b6, vS b7], AV.ptr 0 0, AV.ptr 1 0, vB false, vI 0, vJ, vJ, vJ, vJ, vJ, vJ, vJ, vJ, vJ, vJ, vJ], ob := [(0, AO.box [vS a0, vS a1, vS a2, vS a3, vS a4, vS a5, vS a6, vS a7]), (1, AO.box [vS b0, vS b1, vS b2, vS b3, vS b4, vS b5, vS b6, vS b7])], nx := 1000000, ps := [] }) := by kernel_rfl
def st173 (a0 a1 a2 a3 a4 a5 a6 a7 b0 b1 b2 b3 b4 b5 b6 b7 : ByteArray) (i : Int) : St :=  ⟨[AV.agg [vS a0, vS a1, vS a2, vS a3, vS a4, vS a5, vS a6, vS a7], AV.agg [vS b0, vS b1, vS b2, vS b3, vS b4, vS b5, vS b6, vS b7], AV.ptr 0 0, AV.ptr 1 0, vB false, .val (.int .i64 i), vJ, vJ, vJ, vJ, vJ, vJ, vJ, vJ, vJ, vJ, vJ], [(0, AO.box [vS a0, vS a1, vS a2, vS a3, vS a4, vS a5, vS a6, vS a7]), (1, AO.box [vS b0, vS b1, vS b2, vS b3, vS b4, vS b5, vS b6, vS b7])], 1000000, []⟩
theorem b173_0 (L : Lp) (R : Option Res → Prop) (N : St → Prop) (a0 a1 a2 a3 a4 a5 a6 a7 b0 b1 b2 b3 b4 b5 b6 b7 : ByteArray) : (evP E173 G173 L (lp173 2) (st173 a0 a1 a2 a3 a4 a5 a6 a7 b0 b1 b2 b3 b4 b5 b6 b7 0) (rk173 L R 2 N)) = (
    br (!strEq a0 b0) (R (some { av := vB false, obs := [], outs := [] })) (N { tm := [AV.agg [vS a0, vS a1, vS a2, vS a3, vS a4, vS a5, vS a6, vS a7], AV.agg [vS b0, vS b1, vS b2, vS b3, vS b4, vS b5, vS b6, vS b7], AV.ptr 0 0, AV.ptr 1 0, vB false, vI 1, vJ, vJ, vJ, vJ, vJ, vJ, vJ, vJ, vJ, vJ, vJ], ob := [(0, AO.box [vS a0, vS a1, vS a2, vS a3, vS a4, vS a5, vS a6, vS a7]), (1, AO.box [vS b0, vS b1, vS b2, vS b3, vS b4, vS b5, vS b6, vS b7])], nx := 1000000, ps := [] })) := by kernel_rfl
theorem b173_1 (L : Lp) (R : Option Res → Prop) (N : St → Prop) (a0 a1 a2 a3 a4 a5 a6 a7 b0 b1 b2 b3 b4 b5 b6 b7 : ByteArray) : (evP E173 G173 L (lp173 2) (st173 a0 a1 a2 a3 a4 a5 a6 a7 b0 b1 b2 b3 b4 b5 b6 b7 1) (rk173 L R 2 N)) = (
    br (!strEq a1 b1) (R (some { av := vB false, obs := [], outs := [] })) (N { tm := [AV.agg [vS a0, vS a1, vS a2, vS a3, vS a4, vS a5, vS a6, vS a7], AV.agg [vS b0, vS b1, vS b2, vS b3, vS b4, vS b5, vS b6, vS b7], AV.ptr 0 0, AV.ptr 1 0, vB false, vI 2, vJ, vJ, vJ, vJ, vJ, vJ, vJ, vJ, vJ, vJ, vJ], ob := [(0, AO.box [vS a0, vS a1, vS a2, vS a3, vS a4, vS a5, vS a6, vS a7]), (1, AO.box [vS b0, vS b1, vS b2, vS b3, vS b4, vS b5, vS b6, vS b7])], nx := 1000000, ps := [] })) := by kernel_rfl
theorem b173_2 (L : Lp) (R : Option Res → Prop) (N : St → Prop) (a0 a1 a2 a3 a4 a5 a6 a7 b0 b1 b2 b3 b4 b5 b6 b7 : ByteArray) : (evP E173 G173 L (lp173 2) (st173 a0 a1 a2 a3 a4 a5 a6 a7 b0 b1 b2 b3 b4 b5 b6 b7 2) (rk173 L R 2 N)) = (
    br (!strEq a2 b2) (R (some { av := vB false, obs := [], outs := [] })) (N { tm := [AV.agg [vS a0, vS a1, vS a2, vS a3, vS a4, vS a5, vS a6, vS a7], AV.agg [vS b0, vS b1, vS b2, vS b3, vS b4, vS b5, vS b6, vS b7], AV.ptr 0 0, AV.ptr 1 0, vB false, vI 3, vJ, vJ, vJ, vJ, vJ, vJ, vJ, vJ, vJ, vJ, vJ], ob := [(0, AO.box [vS a0, vS a1, vS a2, vS a3, vS a4, vS a5, vS a6, vS a7]), (1, AO.box [vS b0, vS b1, vS b2, vS b3, vS b4, vS b5, vS b6, vS b7])], nx := 1000000, ps := [] })) := by kernel_rfl
theorem b173_3 (L : Lp) (R : Option Res → Prop) (N : St → Prop) (a0 a1 a2 a3 a4 a5 a6 a7 b0 b1 b2 b3 b4 b5 b6 b7 : ByteArray) : (evP E173 G173 L (lp173 2) (st173 a0 a1 a2 a3 a4 a5 a6 a7 b0 b1 b2 b3 b4 b5 b6 b7 3) (rk173 L R 2 N)) = (
    br (!strEq a3 b3) (R (some { av := vB false, obs := [], outs := [] })) (N { tm := [AV.agg [vS a0, vS a1, vS a2, vS a3, vS a4, vS a5, vS a6, vS a7], AV.agg [vS b0, vS b1, vS b2, vS b3, vS b4, vS b5, vS b6, vS b7], AV.ptr 0 0, AV.ptr 1 0, vB false, vI 4, vJ, vJ, vJ, vJ, vJ, vJ, vJ, vJ, vJ, vJ, vJ], ob := [(0, AO.box [vS a0, vS a1, vS a2, vS a3, vS a4, vS a5, vS a6, vS a7]), (1, AO.box [vS b0, vS b1, vS b2, vS b3, vS b4, vS b5, vS b6, vS b7])], nx := 1000000, ps := [] })) := by kernel_rfl
theorem b173_4 (L : Lp) (R : Option Res → Prop) (N : St → Prop) (a0 a1 a2 a3 a4 a5 a6 a7 b0 b1 b2 b3 b4 b5 b6 b7 : ByteArray) : (evP E173 G173 L (lp173 2) (st173 a0 a1 a2 a3 a4 a5 a6 a7 b0 b1 b2 b3 b4 b5 b6 b7 4) (rk173 L R 2 N)) = (
    br (!strEq a4 b4) (R (some { av := vB false, obs := [], outs := [] })) (N { tm := [AV.agg [vS a0, vS a1, vS a2, vS a3, vS a4, vS a5, vS a6, vS a7], AV.agg [vS b0, vS b1, vS b2, vS b3, vS b4, vS b5, vS b6, vS b7], AV.ptr 0 0, AV.ptr 1 0, vB false, vI 5, vJ, vJ, vJ, vJ, vJ, vJ, vJ, vJ, vJ, vJ, vJ], ob := [(0, AO.box [vS a0, vS a1, vS a2, vS a3, vS a4, vS a5, vS a6, vS a7]), (1, AO.box [vS b0, vS b1, vS b2, vS b3, vS b4, vS b5, vS b6, vS b7])], nx := 1000000, ps := [] })) := by kernel_rfl
theorem b173_5 (L : Lp) (R : Option Res → Prop) (N : St → Prop) (a0 a1 a2 a3 a4 a5 a6 a7 b0 b1 b2 b3 b4 b5 b6 b7 : ByteArray) : (evP E173 G173 L (lp173 2) (st173 a0 a1 a2 a3 a4 a5 a6 a7 b0 b1 b2 b3 b4 b5 b6 b7 5) (rk173 L R 2 N)) = (
    br (!strEq a5 b5) (R (some { av := vB false, obs := [], outs := [] })) (N { tm := [AV.agg [vS a0, vS a1, vS a2, vS a3, vS a4, vS a5, vS a6, vS a7], AV.agg [vS b0, vS b1, vS b2, vS b3, vS b4, vS b5, vS b6, vS b7], AV.ptr 0 0, AV.ptr 1 0, vB false, vI 6, vJ, vJ, vJ, vJ, vJ, vJ, vJ, vJ, vJ, vJ, vJ], ob := [(0, AO.box [vS a0, vS a1, vS a2, vS a3, vS a4, vS a5, vS a6, vS a7]), (1, AO.box [vS b0, vS b1, vS b2, vS b3, vS b4, vS b5, vS b6, vS b7])], nx := 1000000, ps := [] })) := by kernel_rfl
theorem b173_6 (L : Lp) (R : Option Res → Prop) (N : St → Prop) (a0 a1 a2 a3 a4 a5 a6 a7 b0 b1 b2 b3 b4 b5 b6 b7 : ByteArray) : (evP E173 G173 L (lp173 2) (st173 a0 a1 a2 a3 a4 a5 a6 a7 b0 b1 b2 b3 b4 b5 b6 b7 6) (rk173 L R 2 N)) = (
    br (!strEq a6 b6) (R (some { av := vB false, obs := [], outs := [] })) (N { tm := [AV.agg [vS a0, vS a1, vS a2, vS a3, vS a4, vS a5, vS a6, vS a7], AV.agg [vS b0, vS b1, vS b2, vS b3, vS b4, vS b5, vS b6, vS b7], AV.ptr 0 0, AV.ptr 1 0, vB false, vI 7, vJ, vJ, vJ, vJ, vJ, vJ, vJ, vJ, vJ, vJ, vJ], ob := [(0, AO.box [vS a0, vS a1, vS a2, vS a3, vS a4, vS a5, vS a6, vS a7]), (1, AO.box [vS b0, vS b1, vS b2, vS b3, vS b4, vS b5, vS b6, vS b7])], nx := 1000000, ps := [] })) := by kernel_rfl
theorem b173_7 (L : Lp) (R : Option Res → Prop) (N : St → Prop) (a0 a1 a2 a3 a4 a5 a6 a7 b0 b1 b2 b3 b4 b5 b6 b7 : ByteArray) : (evP E173 G173 L (lp173 2) (st173 a0 a1 a2 a3 a4 a5 a6 a7 b0 b1 b2 b3 b4 b5 b6 b7 7) (rk173 L R 2 N)) = (
    br (!strEq a7 b7) (R (some { av := vB false, obs := [], outs := [] })) (N { tm := [AV.agg [vS a0, vS a1, vS a2, vS a3, vS a4, vS a5, vS a6, vS a7], AV.agg [vS b0, vS b1, vS b2, vS b3, vS b4, vS b5, vS b6, vS b7], AV.ptr 0 0, AV.ptr 1 0, vB false, vI 8, vJ, vJ, vJ, vJ, vJ, vJ, vJ, vJ, vJ, vJ, vJ], ob := [(0, AO.box [vS a0, vS a1, vS a2, vS a3, vS a4, vS a5, vS a6, vS a7]), (1, AO.box [vS b0, vS b1, vS b2, vS b3, vS b4, vS b5, vS b6, vS b7])], nx := 1000000, ps := [] })) := by kernel_rfl
theorem b173_8 (L : Lp) (R : Option Res → Prop) (N : St → Prop) (a0 a1 a2 a3 a4 a5 a6 a7 b0 b1 b2 b3 b4 b5 b6 b7 : ByteArray) : (evP E173 G173 L (lp173 2) (st173 a0 a1 a2 a3 a4 a5 a6 a7 b0 b1 b2 b3 b4 b5 b6 b7 8) (rk173 L R 2 N)) = (
    R (some { av := vB true, obs := [], outs := [] })) := by kernel_rfl
def p173 (a0 a1 a2 a3 a4 a5 a6 a7 b0 b1 b2 b3 b4 b5 b6 b7 : ByteArray) : Nat → Bool
  | 0 => strEq a0 b0
  | 1 => strEq a1 b1
  | 2 => strEq a2 b2
  | 3 => strEq a3 b3
  | 4 => strEq a4 b4
  | 5 => strEq a5 b5
  | 6 => strEq a6 b6
  | _ => strEq a7 b7
theorem p173_all (a0 a1 a2 a3 a4 a5 a6 a7 b0 b1 b2 b3 b4 b5 b6 b7 : ByteArray) : allB 8 (p173 a0 a1 a2 a3 a4 a5 a6 a7 b0 b1 b2 b3 b4 b5 b6 b7) = elemEq k8 (a0, a1, a2, a3, a4, a5, a6, a7, ()) (b0, b1, b2, b3, b4, b5, b6, b7, ()) := by
  simp [allB, show List.range 8 = [0, 1, 2, 3, 4, 5, 6, 7] from rfl, p173, elemEq, ckEq]
theorem h173 : G1Ok Tryd.prog 173 g173 := by
  intro args obs k h
  unfold g173 at h
  split at h
  · rename_i k a0 a1 a2 a3 a4 a5 a6 a7 b0 b1 b2 b3 b4 b5 b6 b7
    refine ⟨_, ctr_fn ok0 hg173 Tryd.func173 (by kernel_rfl) (by kernel_rfl) (by kernel_rfl) fun C => ?_, h⟩
    rw [e173]
    refine loopAll okf173 hg173 (st173 a0 a1 a2 a3 a4 a5 a6 a7 b0 b1 b2 b3 b4 b5 b6 b7) 8 (p173 a0 a1 a2 a3 a4 a5 a6 a7 b0 b1 b2 b3 b4 b5 b6 b7) (by omega) (fun N i hi hw next fails done => ?_)
    rw [p173_all] at fails done
    have cs : i = 0 ∨ i = 1 ∨ i = 2 ∨ i = 3 ∨ i = 4 ∨ i = 5 ∨ i = 6 ∨ i = 7 ∨ i = 8 := by omega
    rcases cs with rfl | rfl | rfl | rfl | rfl | rfl | rfl | rfl | rfl
    · show evP E173 G173 _ (lp173 2) (st173 a0 a1 a2 a3 a4 a5 a6 a7 b0 b1 b2 b3 b4 b5 b6 b7 0) (rk173 _ _ 2 _)
      rw [b173_0]
      refine br_not (fun h => ?_) (fun h => ?_)
      · show _ = _
        rw [fails (by omega) h]
      · exact next (by omega) h
    · show evP E173 G173 _ (lp173 2) (st173 a0 a1 a2 a3 a4 a5 a6 a7 b0 b1 b2 b3 b4 b5 b6 b7 1) (rk173 _ _ 2 _)
      rw [b173_1]
      refine br_not (fun h => ?_) (fun h => ?_)
      · show _ = _
        rw [fails (by omega) h]
      · exact next (by omega) h
    · show evP E173 G173 _ (lp173 2) (st173 a0 a1 a2 a3 a4 a5 a6 a7 b0 b1 b2 b3 b4 b5 b6 b7 2) (rk173 _ _ 2 _)
      rw [b173_2]
      refine br_not (fun h => ?_) (fun h => ?_)
      · show _ = _
        rw [fails (by omega) h]
      · exact next (by omega) h
    · show evP E173 G173 _ (lp173 2) (st173 a0 a1 a2 a3 a4 a5 a6 a7 b0 b1 b2 b3 b4 b5 b6 b7 3) (rk173 _ _ 2 _)
      rw [b173_3]
      refine br_not (fun h => ?_) (fun h => ?_)
      · show _ = _
        rw [fails (by omega) h]
      · exact next (by omega) h
    · show evP E173 G173 _ (lp173 2) (st173 a0 a1 a2 a3 a4 a5 a6 a7 b0 b1 b2 b3 b4 b5 b6 b7 4) (rk173 _ _ 2 _)
      rw [b173_4]
      refine br_not (fun h => ?_) (fun h => ?_)
      · show _ = _
        rw [fails (by omega) h]
      · exact next (by omega) h
    · show evP E173 G173 _ (lp173 2) (st173 a0 a1 a2 a3 a4 a5 a6 a7 b0 b1 b2 b3 b4 b5 b6 b7 5) (rk173 _ _ 2 _)
      rw [b173_5]
      refine br_not (fun h => ?_) (fun h => ?_)
      · show _ = _
        rw [fails (by omega) h]
      · exact next (by omega) h
    · show evP E173 G173 _ (lp173 2) (st173 a0 a1 a2 a3 a4 a5 a6 a7 b0 b1 b2 b3 b4 b5 b6 b7 6) (rk173 _ _ 2 _)
      rw [b173_6]
      refine br_not (fun h => ?_) (fun h => ?_)
      · show _ = _
        rw [fails (by omega) h]
      · exact next (by omega) h
    · show evP E173 G173 _ (lp173 2) (st173 a0 a1 a2 a3 a4 a5 a6 a7 b0 b1 b2 b3 b4 b5 b6 b7 7) (rk173 _ _ 2 _)
      rw [b173_7]
      refine br_not (fun h => ?_) (fun h => ?_)
      · show _ = _
        rw [fails (by omega) h]
      · exact next (by omega) h
    · show evP E173 G173 _ (lp173 2) (st173 a0 a1 a2 a3 a4 a5 a6 a7 b0 b1 b2 b3 b4 b5 b6 b7 8) (rk173 _ _ 2 _)
      rw [b173_8]
      show _ = _
      rw [done (by omega)]
  · exact h.elim
def g138 : G1
  | [.agg [.val (.string a0), .val (.int .i64 a1), .val (.string a2), .val (.string a3), .val (.string a4), .val (.string a5), .val (.string a6), .val (.string a7), .val (.string a8), .val (.string a9), .val (.string a10)], .agg [.val (.string b0), .val (.int .i64 b1), .val (.string b2), .val (.string b3), .val (.string b4), .val (.string b5), .val (.string b6), .val (.string b7), .val (.string b8), .val (.string b9), .val (.string b10)]], [], k => k ⟨.val (.bool (elemEq kb (a0, a1, a2, a3, a4, a5, a6, a7, a8, a9, a10, ()) (b0, b1, b2, b3, b4, b5, b6, b7, b8, b9, b10, ()))), [], []⟩
  | _, _, _ => False
noncomputable def E138 : Env := E0.of Tryd.f138
noncomputable def G138 : Gk := gk [(173, g173)]
noncomputable def lp138 (n : Nat) : Code := (loopOf n (codeOf Tryd.f138)).getD .skip
noncomputable def ct138 (L : Lp) (R : Option Res → Prop) (n : Nat) : Kt := contOf E138 G138 L n (codeOf Tryd.f138) (endK E138 Tryd.f138.results.toList R)
noncomputable def rk138 (L : Lp) (R : Option Res → Prop) (n : Nat) (N : St → Prop) : Kt := rk (jof E138 (lp138 n)) N (ct138 L R n)
noncomputable def rkn138 (L : Lp) (R : Option Res → Prop) (n : Nat) (N : St → Prop) (m : Nat) (N2 : St → Prop) : Kt := rk (jof E138 (lp138 m)) N2 (contOf E138 G138 L m (lp138 n) (rk138 L R n N))
noncomputable def LOOPN138 (L : Lp) (R : Option Res → Prop) (n : Nat) (N : St → Prop) (m : Nat) (st : St) : Prop := L (lp138 m) st (contOf E138 G138 L m (lp138 n) (rk138 L R n N))
noncomputable def LOOP138 (L : Lp) (R : Option Res → Prop) (n : Nat) (st : St) : Prop := L (lp138 n) st (ct138 L R n)
theorem hg138 : HG Tryd.prog G138 := (hg_cons h173 hg_nil)
theorem okf138 : Ok Tryd.prog E138 := ok0.of Tryd.f138
theorem e138 (L : Lp) (R : Option Res → Prop) (a0 : ByteArray) (a1 : Int) (a2 : ByteArray) (a3 : ByteArray) (a4 : ByteArray) (a5 : ByteArray) (a6 : ByteArray) (a7 : ByteArray) (a8 : ByteArray) (a9 : ByteArray) (a10 : ByteArray) (b0 : ByteArray) (b1 : Int) (b2 : ByteArray) (b3 : ByteArray) (b4 : ByteArray) (b5 : ByteArray) (b6 : ByteArray) (b7 : ByteArray) (b8 : ByteArray) (b9 : ByteArray) (b10 : ByteArray) : (bodyP E0 G138 L Tryd.f138 [.agg [.val (.string a0), .val (.int .i64 a1), .val (.string a2), .val (.string a3), .val (.string a4), .val (.string a5), .val (.string a6), .val (.string a7), .val (.string a8), .val (.string a9), .val (.string a10)], .agg [.val (.string b0), .val (.int .i64 b1), .val (.string b2), .val (.string b3), .val (.string b4), .val (.string b5), .val (.string b6), .val (.string b7), .val (.string b8), .val (.string b9), .val (.string b10)]] [] R) = (
    br (!strEq a0 b0) (R (some { av := vB false, obs := [], outs := [] })) (br (a1 != b1) (R (some { av := vB false, obs := [], outs := [] })) (br (!strEq a2 b2) (R (some { av := vB false, obs := [], outs := [] })) (br (!elemEq k8 (a3, a4, a5, a6, a7, a8, a9, a10, ()) (b3, b4, b5, b6, b7, b8, b9, b10, ())) (R (some { av := vB false, obs := [], outs := [] })) (R (some { av := vB true, obs := [], outs := [] })))))) := by kernel_rfl
theorem h138 : G1Ok Tryd.prog 138 g138 := by
  intro args obs k h
  unfold g138 at h
  split at h
  · rename_i k a0 a1 a2 a3 a4 a5 a6 a7 a8 a9 a10 b0 b1 b2 b3 b4 b5 b6 b7 b8 b9 b10
    refine ⟨_, ctr_fn ok0 hg138 Tryd.func138 (by kernel_rfl) (by kernel_rfl) (by kernel_rfl) fun C => ?_, h⟩
    rw [e138]
    repeat' (first | refine br_intro (fun h => ?_) (fun h => ?_))
    all_goals simp_all [elemEq, ckEq]
    all_goals grind
  · exact h.elim
def g91 : G1
  | [.rsl [.str, .int .i64, .str, .str, .str, .str, .str, .str, .str, .str, .str] xs, .rsl [.str, .int .i64, .str, .str, .str, .str, .str, .str, .str, .str, .str] ys], [], k => br (decide (xs.length ≤ 1048576)) (k ⟨.val (.bool (eqR kb xs ys)), [], []⟩) False
  | _, _, _ => False
noncomputable def E91 : Env := E0.of Tryd.f91
noncomputable def G91 : Gk := gk [(138, g138)]
noncomputable def lp91 (n : Nat) : Code := (loopOf n (codeOf Tryd.f91)).getD .skip
noncomputable def ct91 (L : Lp) (R : Option Res → Prop) (n : Nat) : Kt := contOf E91 G91 L n (codeOf Tryd.f91) (endK E91 Tryd.f91.results.toList R)
noncomputable def rk91 (L : Lp) (R : Option Res → Prop) (n : Nat) (N : St → Prop) : Kt := rk (jof E91 (lp91 n)) N (ct91 L R n)
noncomputable def rkn91 (L : Lp) (R : Option Res → Prop) (n : Nat) (N : St → Prop) (m : Nat) (N2 : St → Prop) : Kt := rk (jof E91 (lp91 m)) N2 (contOf E91 G91 L m (lp91 n) (rk91 L R n N))
noncomputable def LOOPN91 (L : Lp) (R : Option Res → Prop) (n : Nat) (N : St → Prop) (m : Nat) (st : St) : Prop := L (lp91 m) st (contOf E91 G91 L m (lp91 n) (rk91 L R n N))
noncomputable def LOOP91 (L : Lp) (R : Option Res → Prop) (n : Nat) (st : St) : Prop := L (lp91 n) st (ct91 L R n)
theorem hg91 : HG Tryd.prog G91 := (hg_cons h138 hg_nil)
theorem okf91 : Ok Tryd.prog E91 := ok0.of Tryd.f91
theorem e91 (L : Lp) (R : Option Res → Prop) (xs ys : List (Elem kb)) : (bodyP E0 G91 L Tryd.f91 [.rsl kb xs, .rsl kb ys] [] R) = (
    br ((↑xs.length : Int) != (↑ys.length : Int)) (R (some { av := vB false, obs := [], outs := [] })) (LOOP91 L R 4 { tm := [AV.rsl kb xs, AV.rsl kb ys, vU, vU, vB false, vI 0, vJ, vJ, vJ, vJ, vJ, vJ, vJ, vJ, vJ, vJ, vJ, vJ, vJ, vJ, vJ, vJ, vJ, vJ, vJ, vJ, vJ], ob := [], nx := 1000000, ps := [] })) := by kernel_rfl
def st91 (xs ys : List (Elem kb)) (i : Int) : St :=  ⟨[AV.rsl kb xs, AV.rsl kb ys, vU, vU, vB false, .val (.int .i64 i), vJ, vJ, vJ, vJ, vJ, vJ, vJ, vJ, vJ, vJ, vJ, vJ, vJ, vJ, vJ, vJ, vJ, vJ, vJ, vJ, vJ], [], 1000000, []⟩
theorem b91 (L : Lp) (R : Option Res → Prop) (N : St → Prop) (xs ys : List (Elem kb)) (i : Int) : (evP E91 G91 L (lp91 4) (st91 xs ys i) (rk91 L R 4 N)) = (
    br (decide (i < (↑xs.length : Int))) (br (decide (0 ≤ i ∧ i < (↑xs.length : Int))) (br (decide (0 ≤ i ∧ i < (↑ys.length : Int))) (br (!elemEq kb (xs.getD i.toNat (edflt kb)) (ys.getD i.toNat (edflt kb))) (R (some { av := vB false, obs := [], outs := [] })) (N { tm := [AV.rsl kb xs, AV.rsl kb ys, vU, vU, vB false, vI (IntKind.i64.wrap (i + 1)), vJ, vJ, vJ, vJ, vJ, vJ, vJ, vJ, vJ, vJ, vJ, vJ, vJ, vJ, vJ, vJ, vJ, vJ, vJ, vJ, vJ], ob := [], nx := 1000000, ps := [] })) False) False) (R (some { av := vB true, obs := [], outs := [] }))) := by kernel_rfl
theorem h91 : G1Ok Tryd.prog 91 g91 := by
  intro args obs k h
  unfold g91 at h
  split at h
  · rename_i k xs ys
    obtain ⟨hlen, h⟩ := brd h
    refine ⟨_, ctr_fn ok0 hg91 Tryd.func91 (by kernel_rfl) (by kernel_rfl) (by kernel_rfl) fun C => ?_, h⟩
    rw [e91]
    refine br_intro (fun hb => ?_) (fun hb => ?_)
    · show _ = _
      rw [show eqR kb xs ys = false from eqL_len (fun e => by rw [e] at hb; simp at hb)]
    have hl : xs.length = ys.length := by simp at hb; omega
    exact loopAll okf91 hg91 (fun i => st91 xs ys i) xs.length (fun i => elemEq kb (xs.getD i (edflt kb)) (ys.getD i (edflt kb))) (by omega) (fun N i hi hw next fails done => by
      show evP E91 G91 _ (lp91 4) (st91 xs ys i) (rk91 _ _ 4 _)
      rw [b91, hw, Int.toNat_natCast]
      refine br_dec (fun h2 => br_yes ⟨by omega, h2⟩ (br_yes ⟨by omega, by omega⟩ (br_not (fun h3 => ?_) (fun h3 => ?_)))) (fun h2 => ?_)
      · show _ = _
        rw [show eqR kb xs ys = false from (eqL_of hl).trans (fails (by omega) h3)]
      · exact next (by omega) h3
      · show _ = _
        rw [show eqR kb xs ys = true from (eqL_of hl).trans (done (by omega))])
  · exact h.elim
noncomputable def E29 : Env := E0.of Tryd.f29
noncomputable def G29 : Gk := gk [(91, g91)]
noncomputable def lp29 (n : Nat) : Code := (loopOf n (codeOf Tryd.f29)).getD .skip
noncomputable def ct29 (L : Lp) (R : Option Res → Prop) (n : Nat) : Kt := contOf E29 G29 L n (codeOf Tryd.f29) (endK E29 Tryd.f29.results.toList R)
noncomputable def rk29 (L : Lp) (R : Option Res → Prop) (n : Nat) (N : St → Prop) : Kt := rk (jof E29 (lp29 n)) N (ct29 L R n)
noncomputable def rkn29 (L : Lp) (R : Option Res → Prop) (n : Nat) (N : St → Prop) (m : Nat) (N2 : St → Prop) : Kt := rk (jof E29 (lp29 m)) N2 (contOf E29 G29 L m (lp29 n) (rk29 L R n N))
noncomputable def LOOPN29 (L : Lp) (R : Option Res → Prop) (n : Nat) (N : St → Prop) (m : Nat) (st : St) : Prop := L (lp29 m) st (contOf E29 G29 L m (lp29 n) (rk29 L R n N))
noncomputable def LOOP29 (L : Lp) (R : Option Res → Prop) (n : Nat) (st : St) : Prop := L (lp29 n) st (ct29 L R n)
theorem hg29 : HG Tryd.prog G29 := (hg_cons h91 hg_nil)
theorem okf29 : Ok Tryd.prog E29 := ok0.of Tryd.f29
theorem e29 (L : Lp) (R : Option Res → Prop) (xs ys : List (Elem kb)) : (bodyP E0 G29 L Tryd.f29 [.agg [.rsl kb xs], .agg [.rsl kb ys]] [] R) = (
    br (decide (xs.length ≤ 1048576)) (br (!eqR kb xs ys) (R (some { av := vB false, obs := [], outs := [] })) (R (some { av := vB true, obs := [], outs := [] }))) False) := by kernel_rfl
theorem h29 : G1Ok Tryd.prog 29 g29 := by
  intro args obs k h
  unfold g29 at h
  split at h
  · rename_i k xs ys
    obtain ⟨hlen, h⟩ := brd h
    refine ⟨_, ctr_fn ok0 hg29 Tryd.func29 (by kernel_rfl) (by kernel_rfl) (by kernel_rfl) fun C => ?_, h⟩
    rw [e29]
    refine br_yes hlen (br_not (fun h => ?_) (fun h => ?_)) <;> rw [h]
  · exact h.elim
end Go.Proofs.YtljilcingbohkabDoor.Ev

