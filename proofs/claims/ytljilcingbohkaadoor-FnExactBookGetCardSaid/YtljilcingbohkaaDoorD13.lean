/- Contracts for books: copies, equality. -/
import Derived.Test.YtljilcingbohkaaDoorD12
namespace Go.Proofs.YtljilcingbohkaaDoor.Ev
open Go
set_option linter.unusedVariables false
set_option linter.unusedSimpArgs false
set_option maxRecDepth 100000
def g109 : G1
  | [.agg [.val (.string a0), .val (.string a1), .val (.string a2), .val (.string a3), .val (.string a4), .val (.string a5), .val (.string a6), .val (.string a7)]], [], k =>
    k ⟨s8 a0 a1 a2 a3 a4 a5 a6 a7, [], []⟩
  | _, _, _ => False
abbrev k8 : List CK := [.str, .str, .str, .str, .str, .str, .str, .str]
def g110 : G1
  | [.agg [.val (.string a0), .val (.string a1), .val (.string a2), .val (.string a3), .val (.string a4), .val (.string a5), .val (.string a6), .val (.string a7)], .agg [.val (.string b0), .val (.string b1), .val (.string b2), .val (.string b3), .val (.string b4), .val (.string b5), .val (.string b6), .val (.string b7)]], [], k =>
    k ⟨.val (.bool (elemEq k8 (a0, a1, a2, a3, a4, a5, a6, a7, ()) (b0, b1, b2, b3, b4, b5, b6, b7, ()))), [], []⟩
  | _, _, _ => False
def eqR (cs : List CK) (xs ys : List (Elem cs)) : Bool := eqL (elemEq cs) (edflt cs) xs ys
def g34 : G1
  | [.agg [.rsl [.str, .int .i64, .str, .str, .str, .str, .str, .str, .str, .str, .str] xs]], [], k => br (decide (xs.length ≤ 1048576)) (k ⟨.agg [.ows 0], [.row kb xs], []⟩) False
  | _, _, _ => False
def g36 : G1
  | [.agg [.rsl [.str, .int .i64, .str, .str, .str, .str, .str, .str, .str, .str, .str] xs], .agg [.rsl [.str, .int .i64, .str, .str, .str, .str, .str, .str, .str, .str, .str] ys]], [], k => br (decide (xs.length ≤ 1048576)) (k ⟨.val (.bool (eqR kb xs ys)), [], []⟩) False
  | _, _, _ => False
theorem ckEq_self : ∀ (c : CK) (a : c.T), ckEq c a a = true
  | .int _, a => by simp [ckEq]
  | .str, a => by simp [ckEq, strEq]
  | .bool, a => by simp [ckEq]
theorem elemEq_self : ∀ (cs : List CK) (a : Elem cs), elemEq cs a a = true
  | [], _ => rfl
  | [c], a => ckEq_self c a.1
  | c :: c' :: cs, a => by
    show (ckEq c a.1 a.1 && elemEq (c' :: cs) a.2 a.2) = true
    rw [ckEq_self, elemEq_self]
    rfl
theorem eqR_self (cs : List CK) (xs : List (Elem cs)) : eqR cs xs xs = true := eqL_self (elemEq_self cs) xs
noncomputable def E109 : Env := E0.of Tryd.f109
noncomputable def G109 : Gk := gk []
noncomputable def lp109 (n : Nat) : Code := (loopOf n (codeOf Tryd.f109)).getD .skip
noncomputable def ct109 (L : Lp) (R : Option Res → Prop) (n : Nat) : Kt := contOf E109 G109 L n (codeOf Tryd.f109) (endK E109 Tryd.f109.results.toList R)
noncomputable def rk109 (L : Lp) (R : Option Res → Prop) (n : Nat) (N : St → Prop) : Kt := rk (jof E109 (lp109 n)) N (ct109 L R n)
noncomputable def LOOP109 (L : Lp) (R : Option Res → Prop) (n : Nat) (st : St) : Prop := L (lp109 n) st (ct109 L R n)
theorem hg109 : HG Tryd.prog G109 := hg_nil
theorem okf109 : Ok Tryd.prog E109 := ok0.of Tryd.f109
theorem e109 (L : Lp) (R : Option Res → Prop) (a0 a1 a2 a3 a4 a5 a6 a7 : ByteArray) : (bodyP E0 G109 L Tryd.f109 [s8 a0 a1 a2 a3 a4 a5 a6 a7] [] R) = (
    LOOP109 L R 3 { tm := [AV.agg [vS a0, vS a1, vS a2, vS a3, vS a4, vS a5, vS a6, vS a7], AV.ptr 0 0, AV.ptr 1 0, AV.ptr 2 0, vI 0, vJ, vJ, vJ, vJ, vJ, vJ, vJ, vJ, vJ, vU], ob := [(0, AO.box [vS a0, vS a1, vS a2, vS a3, vS a4, vS a5, vS a6, vS a7]), (1, AO.box [vS ByteArray.empty, vS ByteArray.empty, vS ByteArray.empty, vS ByteArray.empty, vS ByteArray.empty, vS ByteArray.empty, vS ByteArray.empty, vS ByteArray.empty]), (2, AO.box [vS ByteArray.empty, vS ByteArray.empty, vS ByteArray.empty, vS ByteArray.empty, vS ByteArray.empty, vS ByteArray.empty, vS ByteArray.empty, vS ByteArray.empty])], nx := 1000000, ps := [] }) := by kernel_rfl
def st109 (a0 a1 a2 a3 a4 a5 a6 a7 : ByteArray) (i : Int) (b0 b1 b2 b3 b4 b5 b6 b7 : ByteArray) : St :=  ⟨[AV.agg [vS a0, vS a1, vS a2, vS a3, vS a4, vS a5, vS a6, vS a7], AV.ptr 0 0, AV.ptr 1 0, AV.ptr 2 0, .val (.int .i64 i), vJ, vJ, vJ, vJ, vJ, vJ, vJ, vJ, vJ, vU], [(0, AO.box [vS a0, vS a1, vS a2, vS a3, vS a4, vS a5, vS a6, vS a7]), (1, AO.box [vS ByteArray.empty, vS ByteArray.empty, vS ByteArray.empty, vS ByteArray.empty, vS ByteArray.empty, vS ByteArray.empty, vS ByteArray.empty, vS ByteArray.empty]), (2, .box [.val (.string b0), .val (.string b1), .val (.string b2), .val (.string b3), .val (.string b4), .val (.string b5), .val (.string b6), .val (.string b7)])], 1000000, []⟩
theorem b109_0 (L : Lp) (R : Option Res → Prop) (N : St → Prop) (a0 a1 a2 a3 a4 a5 a6 a7 : ByteArray) : (evP E109 G109 L (lp109 3) (st109 a0 a1 a2 a3 a4 a5 a6 a7 0 ByteArray.empty ByteArray.empty ByteArray.empty ByteArray.empty ByteArray.empty ByteArray.empty ByteArray.empty ByteArray.empty) (rk109 L R 3 N)) = (
    N { tm := [AV.agg [vS a0, vS a1, vS a2, vS a3, vS a4, vS a5, vS a6, vS a7], AV.ptr 0 0, AV.ptr 1 0, AV.ptr 2 0, vI 1, vJ, vJ, vJ, vJ, vJ, vJ, vJ, vJ, vJ, vU], ob := [(0, AO.box [vS a0, vS a1, vS a2, vS a3, vS a4, vS a5, vS a6, vS a7]), (1, AO.box [vS ByteArray.empty, vS ByteArray.empty, vS ByteArray.empty, vS ByteArray.empty, vS ByteArray.empty, vS ByteArray.empty, vS ByteArray.empty, vS ByteArray.empty]), (2, AO.box [vS a0, vS ByteArray.empty, vS ByteArray.empty, vS ByteArray.empty, vS ByteArray.empty, vS ByteArray.empty, vS ByteArray.empty, vS ByteArray.empty])], nx := 1000000, ps := [] }) := by kernel_rfl
theorem b109_1 (L : Lp) (R : Option Res → Prop) (N : St → Prop) (a0 a1 a2 a3 a4 a5 a6 a7 : ByteArray) : (evP E109 G109 L (lp109 3) (st109 a0 a1 a2 a3 a4 a5 a6 a7 1 a0 ByteArray.empty ByteArray.empty ByteArray.empty ByteArray.empty ByteArray.empty ByteArray.empty ByteArray.empty) (rk109 L R 3 N)) = (
    N { tm := [AV.agg [vS a0, vS a1, vS a2, vS a3, vS a4, vS a5, vS a6, vS a7], AV.ptr 0 0, AV.ptr 1 0, AV.ptr 2 0, vI 2, vJ, vJ, vJ, vJ, vJ, vJ, vJ, vJ, vJ, vU], ob := [(0, AO.box [vS a0, vS a1, vS a2, vS a3, vS a4, vS a5, vS a6, vS a7]), (1, AO.box [vS ByteArray.empty, vS ByteArray.empty, vS ByteArray.empty, vS ByteArray.empty, vS ByteArray.empty, vS ByteArray.empty, vS ByteArray.empty, vS ByteArray.empty]), (2, AO.box [vS a0, vS a1, vS ByteArray.empty, vS ByteArray.empty, vS ByteArray.empty, vS ByteArray.empty, vS ByteArray.empty, vS ByteArray.empty])], nx := 1000000, ps := [] }) := by kernel_rfl
theorem b109_2 (L : Lp) (R : Option Res → Prop) (N : St → Prop) (a0 a1 a2 a3 a4 a5 a6 a7 : ByteArray) : (evP E109 G109 L (lp109 3) (st109 a0 a1 a2 a3 a4 a5 a6 a7 2 a0 a1 ByteArray.empty ByteArray.empty ByteArray.empty ByteArray.empty ByteArray.empty ByteArray.empty) (rk109 L R 3 N)) = (
    N { tm := [AV.agg [vS a0, vS a1, vS a2, vS a3, vS a4, vS a5, vS a6, vS a7], AV.ptr 0 0, AV.ptr 1 0, AV.ptr 2 0, vI 3, vJ, vJ, vJ, vJ, vJ, vJ, vJ, vJ, vJ, vU], ob := [(0, AO.box [vS a0, vS a1, vS a2, vS a3, vS a4, vS a5, vS a6, vS a7]), (1, AO.box [vS ByteArray.empty, vS ByteArray.empty, vS ByteArray.empty, vS ByteArray.empty, vS ByteArray.empty, vS ByteArray.empty, vS ByteArray.empty, vS ByteArray.empty]), (2, AO.box [vS a0, vS a1, vS a2, vS ByteArray.empty, vS ByteArray.empty, vS ByteArray.empty, vS ByteArray.empty, vS ByteArray.empty])], nx := 1000000, ps := [] }) := by kernel_rfl
theorem b109_3 (L : Lp) (R : Option Res → Prop) (N : St → Prop) (a0 a1 a2 a3 a4 a5 a6 a7 : ByteArray) : (evP E109 G109 L (lp109 3) (st109 a0 a1 a2 a3 a4 a5 a6 a7 3 a0 a1 a2 ByteArray.empty ByteArray.empty ByteArray.empty ByteArray.empty ByteArray.empty) (rk109 L R 3 N)) = (
    N { tm := [AV.agg [vS a0, vS a1, vS a2, vS a3, vS a4, vS a5, vS a6, vS a7], AV.ptr 0 0, AV.ptr 1 0, AV.ptr 2 0, vI 4, vJ, vJ, vJ, vJ, vJ, vJ, vJ, vJ, vJ, vU], ob := [(0, AO.box [vS a0, vS a1, vS a2, vS a3, vS a4, vS a5, vS a6, vS a7]), (1, AO.box [vS ByteArray.empty, vS ByteArray.empty, vS ByteArray.empty, vS ByteArray.empty, vS ByteArray.empty, vS ByteArray.empty, vS ByteArray.empty, vS ByteArray.empty]), (2, AO.box [vS a0, vS a1, vS a2, vS a3, vS ByteArray.empty, vS ByteArray.empty, vS ByteArray.empty, vS ByteArray.empty])], nx := 1000000, ps := [] }) := by kernel_rfl
theorem b109_4 (L : Lp) (R : Option Res → Prop) (N : St → Prop) (a0 a1 a2 a3 a4 a5 a6 a7 : ByteArray) : (evP E109 G109 L (lp109 3) (st109 a0 a1 a2 a3 a4 a5 a6 a7 4 a0 a1 a2 a3 ByteArray.empty ByteArray.empty ByteArray.empty ByteArray.empty) (rk109 L R 3 N)) = (
    N { tm := [AV.agg [vS a0, vS a1, vS a2, vS a3, vS a4, vS a5, vS a6, vS a7], AV.ptr 0 0, AV.ptr 1 0, AV.ptr 2 0, vI 5, vJ, vJ, vJ, vJ, vJ, vJ, vJ, vJ, vJ, vU], ob := [(0, AO.box [vS a0, vS a1, vS a2, vS a3, vS a4, vS a5, vS a6, vS a7]), (1, AO.box [vS ByteArray.empty, vS ByteArray.empty, vS ByteArray.empty, vS ByteArray.empty, vS ByteArray.empty, vS ByteArray.empty, vS ByteArray.empty, vS ByteArray.empty]), (2, AO.box [vS a0, vS a1, vS a2, vS a3, vS a4, vS ByteArray.empty, vS ByteArray.empty, vS ByteArray.empty])], nx := 1000000, ps := [] }) := by kernel_rfl
theorem b109_5 (L : Lp) (R : Option Res → Prop) (N : St → Prop) (a0 a1 a2 a3 a4 a5 a6 a7 : ByteArray) : (evP E109 G109 L (lp109 3) (st109 a0 a1 a2 a3 a4 a5 a6 a7 5 a0 a1 a2 a3 a4 ByteArray.empty ByteArray.empty ByteArray.empty) (rk109 L R 3 N)) = (
    N { tm := [AV.agg [vS a0, vS a1, vS a2, vS a3, vS a4, vS a5, vS a6, vS a7], AV.ptr 0 0, AV.ptr 1 0, AV.ptr 2 0, vI 6, vJ, vJ, vJ, vJ, vJ, vJ, vJ, vJ, vJ, vU], ob := [(0, AO.box [vS a0, vS a1, vS a2, vS a3, vS a4, vS a5, vS a6, vS a7]), (1, AO.box [vS ByteArray.empty, vS ByteArray.empty, vS ByteArray.empty, vS ByteArray.empty, vS ByteArray.empty, vS ByteArray.empty, vS ByteArray.empty, vS ByteArray.empty]), (2, AO.box [vS a0, vS a1, vS a2, vS a3, vS a4, vS a5, vS ByteArray.empty, vS ByteArray.empty])], nx := 1000000, ps := [] }) := by kernel_rfl
theorem b109_6 (L : Lp) (R : Option Res → Prop) (N : St → Prop) (a0 a1 a2 a3 a4 a5 a6 a7 : ByteArray) : (evP E109 G109 L (lp109 3) (st109 a0 a1 a2 a3 a4 a5 a6 a7 6 a0 a1 a2 a3 a4 a5 ByteArray.empty ByteArray.empty) (rk109 L R 3 N)) = (
    N { tm := [AV.agg [vS a0, vS a1, vS a2, vS a3, vS a4, vS a5, vS a6, vS a7], AV.ptr 0 0, AV.ptr 1 0, AV.ptr 2 0, vI 7, vJ, vJ, vJ, vJ, vJ, vJ, vJ, vJ, vJ, vU], ob := [(0, AO.box [vS a0, vS a1, vS a2, vS a3, vS a4, vS a5, vS a6, vS a7]), (1, AO.box [vS ByteArray.empty, vS ByteArray.empty, vS ByteArray.empty, vS ByteArray.empty, vS ByteArray.empty, vS ByteArray.empty, vS ByteArray.empty, vS ByteArray.empty]), (2, AO.box [vS a0, vS a1, vS a2, vS a3, vS a4, vS a5, vS a6, vS ByteArray.empty])], nx := 1000000, ps := [] }) := by kernel_rfl
theorem b109_7 (L : Lp) (R : Option Res → Prop) (N : St → Prop) (a0 a1 a2 a3 a4 a5 a6 a7 : ByteArray) : (evP E109 G109 L (lp109 3) (st109 a0 a1 a2 a3 a4 a5 a6 a7 7 a0 a1 a2 a3 a4 a5 a6 ByteArray.empty) (rk109 L R 3 N)) = (
    N { tm := [AV.agg [vS a0, vS a1, vS a2, vS a3, vS a4, vS a5, vS a6, vS a7], AV.ptr 0 0, AV.ptr 1 0, AV.ptr 2 0, vI 8, vJ, vJ, vJ, vJ, vJ, vJ, vJ, vJ, vJ, vU], ob := [(0, AO.box [vS a0, vS a1, vS a2, vS a3, vS a4, vS a5, vS a6, vS a7]), (1, AO.box [vS ByteArray.empty, vS ByteArray.empty, vS ByteArray.empty, vS ByteArray.empty, vS ByteArray.empty, vS ByteArray.empty, vS ByteArray.empty, vS ByteArray.empty]), (2, AO.box [vS a0, vS a1, vS a2, vS a3, vS a4, vS a5, vS a6, vS a7])], nx := 1000000, ps := [] }) := by kernel_rfl
theorem b109_8 (L : Lp) (R : Option Res → Prop) (N : St → Prop) (a0 a1 a2 a3 a4 a5 a6 a7 : ByteArray) : (evP E109 G109 L (lp109 3) (st109 a0 a1 a2 a3 a4 a5 a6 a7 8 a0 a1 a2 a3 a4 a5 a6 a7) (rk109 L R 3 N)) = (
    R (some { av := AV.agg [vS a0, vS a1, vS a2, vS a3, vS a4, vS a5, vS a6, vS a7], obs := [], outs := [] })) := by kernel_rfl
def sq109 (a0 a1 a2 a3 a4 a5 a6 a7 : ByteArray) : Nat → St
  | 0 => st109 a0 a1 a2 a3 a4 a5 a6 a7 0 ByteArray.empty ByteArray.empty ByteArray.empty ByteArray.empty ByteArray.empty ByteArray.empty ByteArray.empty ByteArray.empty
  | 1 => st109 a0 a1 a2 a3 a4 a5 a6 a7 1 a0 ByteArray.empty ByteArray.empty ByteArray.empty ByteArray.empty ByteArray.empty ByteArray.empty ByteArray.empty
  | 2 => st109 a0 a1 a2 a3 a4 a5 a6 a7 2 a0 a1 ByteArray.empty ByteArray.empty ByteArray.empty ByteArray.empty ByteArray.empty ByteArray.empty
  | 3 => st109 a0 a1 a2 a3 a4 a5 a6 a7 3 a0 a1 a2 ByteArray.empty ByteArray.empty ByteArray.empty ByteArray.empty ByteArray.empty
  | 4 => st109 a0 a1 a2 a3 a4 a5 a6 a7 4 a0 a1 a2 a3 ByteArray.empty ByteArray.empty ByteArray.empty ByteArray.empty
  | 5 => st109 a0 a1 a2 a3 a4 a5 a6 a7 5 a0 a1 a2 a3 a4 ByteArray.empty ByteArray.empty ByteArray.empty
  | 6 => st109 a0 a1 a2 a3 a4 a5 a6 a7 6 a0 a1 a2 a3 a4 a5 ByteArray.empty ByteArray.empty
  | 7 => st109 a0 a1 a2 a3 a4 a5 a6 a7 7 a0 a1 a2 a3 a4 a5 a6 ByteArray.empty
  | _ => st109 a0 a1 a2 a3 a4 a5 a6 a7 8 a0 a1 a2 a3 a4 a5 a6 a7
theorem h109 : G1Ok Tryd.prog 109 g109 := by
  intro args obs k h
  unfold g109 at h
  split at h
  · rename_i k a0 a1 a2 a3 a4 a5 a6 a7
    refine ⟨_, ctr_fn ok0 hg109 Tryd.func109 (by kernel_rfl) (by kernel_rfl) (by kernel_rfl) fun C => ?_, h⟩
    rw [e109]
    refine loopSeq okf109 hg109 (sq109 a0 a1 a2 a3 a4 a5 a6 a7) 8 (fun N i hi next => ?_) (fun N => ?_)
    · have cs : i = 0 ∨ i = 1 ∨ i = 2 ∨ i = 3 ∨ i = 4 ∨ i = 5 ∨ i = 6 ∨ i = 7 := by omega
      rcases cs with rfl | rfl | rfl | rfl | rfl | rfl | rfl | rfl
      · show evP E109 G109 _ (lp109 3) (st109 a0 a1 a2 a3 a4 a5 a6 a7 0 ByteArray.empty ByteArray.empty ByteArray.empty ByteArray.empty ByteArray.empty ByteArray.empty ByteArray.empty ByteArray.empty) (rk109 _ _ 3 _)
        rw [b109_0]
        exact next
      · show evP E109 G109 _ (lp109 3) (st109 a0 a1 a2 a3 a4 a5 a6 a7 1 a0 ByteArray.empty ByteArray.empty ByteArray.empty ByteArray.empty ByteArray.empty ByteArray.empty ByteArray.empty) (rk109 _ _ 3 _)
        rw [b109_1]
        exact next
      · show evP E109 G109 _ (lp109 3) (st109 a0 a1 a2 a3 a4 a5 a6 a7 2 a0 a1 ByteArray.empty ByteArray.empty ByteArray.empty ByteArray.empty ByteArray.empty ByteArray.empty) (rk109 _ _ 3 _)
        rw [b109_2]
        exact next
      · show evP E109 G109 _ (lp109 3) (st109 a0 a1 a2 a3 a4 a5 a6 a7 3 a0 a1 a2 ByteArray.empty ByteArray.empty ByteArray.empty ByteArray.empty ByteArray.empty) (rk109 _ _ 3 _)
        rw [b109_3]
        exact next
      · show evP E109 G109 _ (lp109 3) (st109 a0 a1 a2 a3 a4 a5 a6 a7 4 a0 a1 a2 a3 ByteArray.empty ByteArray.empty ByteArray.empty ByteArray.empty) (rk109 _ _ 3 _)
        rw [b109_4]
        exact next
      · show evP E109 G109 _ (lp109 3) (st109 a0 a1 a2 a3 a4 a5 a6 a7 5 a0 a1 a2 a3 a4 ByteArray.empty ByteArray.empty ByteArray.empty) (rk109 _ _ 3 _)
        rw [b109_5]
        exact next
      · show evP E109 G109 _ (lp109 3) (st109 a0 a1 a2 a3 a4 a5 a6 a7 6 a0 a1 a2 a3 a4 a5 ByteArray.empty ByteArray.empty) (rk109 _ _ 3 _)
        rw [b109_6]
        exact next
      · show evP E109 G109 _ (lp109 3) (st109 a0 a1 a2 a3 a4 a5 a6 a7 7 a0 a1 a2 a3 a4 a5 a6 ByteArray.empty) (rk109 _ _ 3 _)
        rw [b109_7]
        exact next
    · show evP E109 G109 _ (lp109 3) (st109 a0 a1 a2 a3 a4 a5 a6 a7 8 a0 a1 a2 a3 a4 a5 a6 a7) (rk109 _ _ 3 _)
      rw [b109_8]
  · exact h.elim
def g91 : G1
  | [.agg [.val (.string a0), .val (.int .i64 a1), .val (.string a2), .val (.string a3), .val (.string a4), .val (.string a5), .val (.string a6), .val (.string a7), .val (.string a8), .val (.string a9), .val (.string a10)]], [], k => k ⟨.agg [.val (.string a0), .val (.int .i64 a1), .val (.string a2), .val (.string a3), .val (.string a4), .val (.string a5), .val (.string a6), .val (.string a7), .val (.string a8), .val (.string a9), .val (.string a10)], [], []⟩
  | _, _, _ => False
noncomputable def E91 : Env := E0.of Tryd.f91
noncomputable def G91 : Gk := gk [(109, g109)]
noncomputable def lp91 (n : Nat) : Code := (loopOf n (codeOf Tryd.f91)).getD .skip
noncomputable def ct91 (L : Lp) (R : Option Res → Prop) (n : Nat) : Kt := contOf E91 G91 L n (codeOf Tryd.f91) (endK E91 Tryd.f91.results.toList R)
noncomputable def rk91 (L : Lp) (R : Option Res → Prop) (n : Nat) (N : St → Prop) : Kt := rk (jof E91 (lp91 n)) N (ct91 L R n)
noncomputable def LOOP91 (L : Lp) (R : Option Res → Prop) (n : Nat) (st : St) : Prop := L (lp91 n) st (ct91 L R n)
theorem hg91 : HG Tryd.prog G91 := (hg_cons h109 hg_nil)
theorem okf91 : Ok Tryd.prog E91 := ok0.of Tryd.f91
theorem e91 (L : Lp) (R : Option Res → Prop) (a0 : ByteArray) (a1 : Int) (a2 : ByteArray) (a3 : ByteArray) (a4 : ByteArray) (a5 : ByteArray) (a6 : ByteArray) (a7 : ByteArray) (a8 : ByteArray) (a9 : ByteArray) (a10 : ByteArray) : (bodyP E0 G91 L Tryd.f91 [.agg [.val (.string a0), .val (.int .i64 a1), .val (.string a2), .val (.string a3), .val (.string a4), .val (.string a5), .val (.string a6), .val (.string a7), .val (.string a8), .val (.string a9), .val (.string a10)]] [] R) = (
    R (some { av := AV.agg [vS a0, vI a1, vS a2, vS a3, vS a4, vS a5, vS a6, vS a7, vS a8, vS a9, vS a10], obs := [], outs := [] })) := by kernel_rfl
theorem h91 : G1Ok Tryd.prog 91 g91 := by
  intro args obs k h
  unfold g91 at h
  split at h
  · rename_i k a0 a1 a2 a3 a4 a5 a6 a7 a8 a9 a10
    refine ⟨_, ctr_fn ok0 hg91 Tryd.func91 (by kernel_rfl) (by kernel_rfl) (by kernel_rfl) fun C => ?_, h⟩
    rw [e91]
  · exact h.elim
def g62 : G1
  | [.rsl [.str, .int .i64, .str, .str, .str, .str, .str, .str, .str, .str, .str] xs], [], k => br (decide (xs.length ≤ 1048576)) (k ⟨.ows 0, [.row kb xs], []⟩) False
  | _, _, _ => False
noncomputable def E62 : Env := E0.of Tryd.f62
noncomputable def G62 : Gk := gk [(91, g91)]
noncomputable def lp62 (n : Nat) : Code := (loopOf n (codeOf Tryd.f62)).getD .skip
noncomputable def ct62 (L : Lp) (R : Option Res → Prop) (n : Nat) : Kt := contOf E62 G62 L n (codeOf Tryd.f62) (endK E62 Tryd.f62.results.toList R)
noncomputable def rk62 (L : Lp) (R : Option Res → Prop) (n : Nat) (N : St → Prop) : Kt := rk (jof E62 (lp62 n)) N (ct62 L R n)
noncomputable def LOOP62 (L : Lp) (R : Option Res → Prop) (n : Nat) (st : St) : Prop := L (lp62 n) st (ct62 L R n)
theorem hg62 : HG Tryd.prog G62 := (hg_cons h91 hg_nil)
theorem okf62 : Ok Tryd.prog E62 := ok0.of Tryd.f62
theorem e62 (L : Lp) (R : Option Res → Prop) (xs : List (Elem kb)) : (bodyP E0 G62 L Tryd.f62 [.rsl kb xs] [] R) = (
    br (decide (0 ≤ (↑xs.length : Int) ∧ (↑xs.length : Int) ≤ (↑xs.length : Int) ∧ 168 * (↑xs.length : Int) ≤ 281474976710656)) (LOOP62 L R 3 { tm := [AV.rsl kb xs, vU, AV.ows 0, AV.ows 1, vI 0, vJ, vJ, vJ, vJ, vJ, vJ, vJ, vJ, vJ, vJ, vJ, vJ, vJ, vJ, vJ, vJ, vJ, vU], ob := [(0, AO.row kb []), (1, AO.row kb (List.replicate (↑xs.length : Int).toNat (edflt kb)))], nx := 1000000, ps := [] }) False) := by kernel_rfl
def st62 (xs : List (Elem kb)) (i : Int) (ys : List (Elem kb)) : St :=  ⟨[AV.rsl kb xs, vU, AV.ows 0, AV.ows 1, .val (.int .i64 i), vJ, vJ, vJ, vJ, vJ, vJ, vJ, vJ, vJ, vJ, vJ, vJ, vJ, vJ, vJ, vJ, vJ, vU], [(0, AO.row kb []), (1, .row kb ys)], 1000000, []⟩
theorem b62 (L : Lp) (R : Option Res → Prop) (N : St → Prop) (xs : List (Elem kb)) (i : Int) (ys : List (Elem kb)) : (evP E62 G62 L (lp62 3) (st62 xs i ys) (rk62 L R 3 N)) = (
    br (decide (i < (↑xs.length : Int))) (br (decide (0 ≤ i ∧ i < (↑xs.length : Int))) (br (decide (0 ≤ i ∧ i < (↑ys.length : Int))) (N { tm := [AV.rsl kb xs, vU, AV.ows 0, AV.ows 1, vI (IntKind.i64.wrap (i + 1)), vJ, vJ, vJ, vJ, vJ, vJ, vJ, vJ, vJ, vJ, vJ, vJ, vJ, vJ, vJ, vJ, vJ, vU], ob := [(0, AO.row kb []), (1, AO.row kb (ys.set i.toNat (xs.getD i.toNat (edflt kb))))], nx := 1000000, ps := [] }) False) False) (R (some { av := AV.ows 0, obs := [AO.row kb ys], outs := [] }))) := by kernel_rfl
theorem h62 : G1Ok Tryd.prog 62 g62 := by
  intro args obs k h
  unfold g62 at h
  split at h
  · rename_i k xs
    obtain ⟨hlen, h⟩ := brd h
    refine ⟨_, ctr_fn ok0 hg62 Tryd.func62 (by kernel_rfl) (by kernel_rfl) (by kernel_rfl) fun C => ?_, h⟩
    rw [e62]
    refine br_yes ⟨by omega, by omega, by omega⟩ ?_
    exact loopUp okf62 hg62 (fun i ys => st62 xs i ys) xs.length (Cp xs) (fun N i ys hi hc next => by
      show evP E62 G62 _ (lp62 3) (st62 xs i ys) (rk62 _ _ 3 _)
      rw [b62, wrap_id (n := (i : Int) + 1) (by omega) (by omega), Int.toNat_natCast]
      have hl := hc.len
      refine br_dec (fun h2 => ?_) (fun h2 => ?_)
      · refine br_yes ⟨by omega, h2⟩ (br_yes ⟨by omega, by omega⟩ ?_)
        exact next (by omega) _ (hc.next (by omega))
      · show _ = _
        rw [hc.done (by omega)]) _ (Cp.zero xs _)
  · exact h.elim
noncomputable def E34 : Env := E0.of Tryd.f34
noncomputable def G34 : Gk := gk [(62, g62)]
noncomputable def lp34 (n : Nat) : Code := (loopOf n (codeOf Tryd.f34)).getD .skip
noncomputable def ct34 (L : Lp) (R : Option Res → Prop) (n : Nat) : Kt := contOf E34 G34 L n (codeOf Tryd.f34) (endK E34 Tryd.f34.results.toList R)
noncomputable def rk34 (L : Lp) (R : Option Res → Prop) (n : Nat) (N : St → Prop) : Kt := rk (jof E34 (lp34 n)) N (ct34 L R n)
noncomputable def LOOP34 (L : Lp) (R : Option Res → Prop) (n : Nat) (st : St) : Prop := L (lp34 n) st (ct34 L R n)
theorem hg34 : HG Tryd.prog G34 := (hg_cons h62 hg_nil)
theorem okf34 : Ok Tryd.prog E34 := ok0.of Tryd.f34
theorem e34 (L : Lp) (R : Option Res → Prop) (xs : List (Elem kb)) : (bodyP E0 G34 L Tryd.f34 [.agg [.rsl kb xs]] [] R) = (
    br (decide (xs.length ≤ 1048576)) (R (some { av := AV.agg [AV.ows 0], obs := [AO.row kb xs], outs := [] })) False) := by kernel_rfl
theorem h34 : G1Ok Tryd.prog 34 g34 := by
  intro args obs k h
  unfold g34 at h
  split at h
  · rename_i k xs
    obtain ⟨hlen, h⟩ := brd h
    refine ⟨_, ctr_fn ok0 hg34 Tryd.func34 (by kernel_rfl) (by kernel_rfl) (by kernel_rfl) fun C => ?_, h⟩
    rw [e34]
    exact br_yes hlen rfl
  · exact h.elim
noncomputable def E110 : Env := E0.of Tryd.f110
noncomputable def G110 : Gk := gk []
noncomputable def lp110 (n : Nat) : Code := (loopOf n (codeOf Tryd.f110)).getD .skip
noncomputable def ct110 (L : Lp) (R : Option Res → Prop) (n : Nat) : Kt := contOf E110 G110 L n (codeOf Tryd.f110) (endK E110 Tryd.f110.results.toList R)
noncomputable def rk110 (L : Lp) (R : Option Res → Prop) (n : Nat) (N : St → Prop) : Kt := rk (jof E110 (lp110 n)) N (ct110 L R n)
noncomputable def LOOP110 (L : Lp) (R : Option Res → Prop) (n : Nat) (st : St) : Prop := L (lp110 n) st (ct110 L R n)
theorem hg110 : HG Tryd.prog G110 := hg_nil
theorem okf110 : Ok Tryd.prog E110 := ok0.of Tryd.f110
theorem e110 (L : Lp) (R : Option Res → Prop) (a0 a1 a2 a3 a4 a5 a6 a7 b0 b1 b2 b3 b4 b5 b6 b7 : ByteArray) : (bodyP E0 G110 L Tryd.f110 [s8 a0 a1 a2 a3 a4 a5 a6 a7, s8 b0 b1 b2 b3 b4 b5 b6 b7] [] R) = (
    LOOP110 L R 2 { tm := [AV.agg [vS a0, vS a1, vS a2, vS a3, vS a4, vS a5, vS a6, vS a7], AV.agg [vS b0, vS b1, vS b2, vS b3, vS b4, vS b5, vS b6, vS b7], AV.ptr 0 0, AV.ptr 1 0, vB false, vI 0, vJ, vJ, vJ, vJ, vJ, vJ, vJ, vJ, vJ, vJ, vJ], ob := [(0, AO.box [vS a0, vS a1, vS a2, vS a3, vS a4, vS a5, vS a6, vS a7]), (1, AO.box [vS b0, vS b1, vS b2, vS b3, vS b4, vS b5, vS b6, vS b7])], nx := 1000000, ps := [] }) := by kernel_rfl
def st110 (a0 a1 a2 a3 a4 a5 a6 a7 b0 b1 b2 b3 b4 b5 b6 b7 : ByteArray) (i : Int) : St :=  ⟨[AV.agg [vS a0, vS a1, vS a2, vS a3, vS a4, vS a5, vS a6, vS a7], AV.agg [vS b0, vS b1, vS b2, vS b3, vS b4, vS b5, vS b6, vS b7], AV.ptr 0 0, AV.ptr 1 0, vB false, .val (.int .i64 i), vJ, vJ, vJ, vJ, vJ, vJ, vJ, vJ, vJ, vJ, vJ], [(0, AO.box [vS a0, vS a1, vS a2, vS a3, vS a4, vS a5, vS a6, vS a7]), (1, AO.box [vS b0, vS b1, vS b2, vS b3, vS b4, vS b5, vS b6, vS b7])], 1000000, []⟩
theorem b110_0 (L : Lp) (R : Option Res → Prop) (N : St → Prop) (a0 a1 a2 a3 a4 a5 a6 a7 b0 b1 b2 b3 b4 b5 b6 b7 : ByteArray) : (evP E110 G110 L (lp110 2) (st110 a0 a1 a2 a3 a4 a5 a6 a7 b0 b1 b2 b3 b4 b5 b6 b7 0) (rk110 L R 2 N)) = (
    br (!strEq a0 b0) (R (some { av := vB false, obs := [], outs := [] })) (N { tm := [AV.agg [vS a0, vS a1, vS a2, vS a3, vS a4, vS a5, vS a6, vS a7], AV.agg [vS b0, vS b1, vS b2, vS b3, vS b4, vS b5, vS b6, vS b7], AV.ptr 0 0, AV.ptr 1 0, vB false, vI 1, vJ, vJ, vJ, vJ, vJ, vJ, vJ, vJ, vJ, vJ, vJ], ob := [(0, AO.box [vS a0, vS a1, vS a2, vS a3, vS a4, vS a5, vS a6, vS a7]), (1, AO.box [vS b0, vS b1, vS b2, vS b3, vS b4, vS b5, vS b6, vS b7])], nx := 1000000, ps := [] })) := by kernel_rfl
theorem b110_1 (L : Lp) (R : Option Res → Prop) (N : St → Prop) (a0 a1 a2 a3 a4 a5 a6 a7 b0 b1 b2 b3 b4 b5 b6 b7 : ByteArray) : (evP E110 G110 L (lp110 2) (st110 a0 a1 a2 a3 a4 a5 a6 a7 b0 b1 b2 b3 b4 b5 b6 b7 1) (rk110 L R 2 N)) = (
    br (!strEq a1 b1) (R (some { av := vB false, obs := [], outs := [] })) (N { tm := [AV.agg [vS a0, vS a1, vS a2, vS a3, vS a4, vS a5, vS a6, vS a7], AV.agg [vS b0, vS b1, vS b2, vS b3, vS b4, vS b5, vS b6, vS b7], AV.ptr 0 0, AV.ptr 1 0, vB false, vI 2, vJ, vJ, vJ, vJ, vJ, vJ, vJ, vJ, vJ, vJ, vJ], ob := [(0, AO.box [vS a0, vS a1, vS a2, vS a3, vS a4, vS a5, vS a6, vS a7]), (1, AO.box [vS b0, vS b1, vS b2, vS b3, vS b4, vS b5, vS b6, vS b7])], nx := 1000000, ps := [] })) := by kernel_rfl
theorem b110_2 (L : Lp) (R : Option Res → Prop) (N : St → Prop) (a0 a1 a2 a3 a4 a5 a6 a7 b0 b1 b2 b3 b4 b5 b6 b7 : ByteArray) : (evP E110 G110 L (lp110 2) (st110 a0 a1 a2 a3 a4 a5 a6 a7 b0 b1 b2 b3 b4 b5 b6 b7 2) (rk110 L R 2 N)) = (
    br (!strEq a2 b2) (R (some { av := vB false, obs := [], outs := [] })) (N { tm := [AV.agg [vS a0, vS a1, vS a2, vS a3, vS a4, vS a5, vS a6, vS a7], AV.agg [vS b0, vS b1, vS b2, vS b3, vS b4, vS b5, vS b6, vS b7], AV.ptr 0 0, AV.ptr 1 0, vB false, vI 3, vJ, vJ, vJ, vJ, vJ, vJ, vJ, vJ, vJ, vJ, vJ], ob := [(0, AO.box [vS a0, vS a1, vS a2, vS a3, vS a4, vS a5, vS a6, vS a7]), (1, AO.box [vS b0, vS b1, vS b2, vS b3, vS b4, vS b5, vS b6, vS b7])], nx := 1000000, ps := [] })) := by kernel_rfl
theorem b110_3 (L : Lp) (R : Option Res → Prop) (N : St → Prop) (a0 a1 a2 a3 a4 a5 a6 a7 b0 b1 b2 b3 b4 b5 b6 b7 : ByteArray) : (evP E110 G110 L (lp110 2) (st110 a0 a1 a2 a3 a4 a5 a6 a7 b0 b1 b2 b3 b4 b5 b6 b7 3) (rk110 L R 2 N)) = (
    br (!strEq a3 b3) (R (some { av := vB false, obs := [], outs := [] })) (N { tm := [AV.agg [vS a0, vS a1, vS a2, vS a3, vS a4, vS a5, vS a6, vS a7], AV.agg [vS b0, vS b1, vS b2, vS b3, vS b4, vS b5, vS b6, vS b7], AV.ptr 0 0, AV.ptr 1 0, vB false, vI 4, vJ, vJ, vJ, vJ, vJ, vJ, vJ, vJ, vJ, vJ, vJ], ob := [(0, AO.box [vS a0, vS a1, vS a2, vS a3, vS a4, vS a5, vS a6, vS a7]), (1, AO.box [vS b0, vS b1, vS b2, vS b3, vS b4, vS b5, vS b6, vS b7])], nx := 1000000, ps := [] })) := by kernel_rfl
theorem b110_4 (L : Lp) (R : Option Res → Prop) (N : St → Prop) (a0 a1 a2 a3 a4 a5 a6 a7 b0 b1 b2 b3 b4 b5 b6 b7 : ByteArray) : (evP E110 G110 L (lp110 2) (st110 a0 a1 a2 a3 a4 a5 a6 a7 b0 b1 b2 b3 b4 b5 b6 b7 4) (rk110 L R 2 N)) = (
    br (!strEq a4 b4) (R (some { av := vB false, obs := [], outs := [] })) (N { tm := [AV.agg [vS a0, vS a1, vS a2, vS a3, vS a4, vS a5, vS a6, vS a7], AV.agg [vS b0, vS b1, vS b2, vS b3, vS b4, vS b5, vS b6, vS b7], AV.ptr 0 0, AV.ptr 1 0, vB false, vI 5, vJ, vJ, vJ, vJ, vJ, vJ, vJ, vJ, vJ, vJ, vJ], ob := [(0, AO.box [vS a0, vS a1, vS a2, vS a3, vS a4, vS a5, vS a6, vS a7]), (1, AO.box [vS b0, vS b1, vS b2, vS b3, vS b4, vS b5, vS b6, vS b7])], nx := 1000000, ps := [] })) := by kernel_rfl
theorem b110_5 (L : Lp) (R : Option Res → Prop) (N : St → Prop) (a0 a1 a2 a3 a4 a5 a6 a7 b0 b1 b2 b3 b4 b5 b6 b7 : ByteArray) : (evP E110 G110 L (lp110 2) (st110 a0 a1 a2 a3 a4 a5 a6 a7 b0 b1 b2 b3 b4 b5 b6 b7 5) (rk110 L R 2 N)) = (
    br (!strEq a5 b5) (R (some { av := vB false, obs := [], outs := [] })) (N { tm := [AV.agg [vS a0, vS a1, vS a2, vS a3, vS a4, vS a5, vS a6, vS a7], AV.agg [vS b0, vS b1, vS b2, vS b3, vS b4, vS b5, vS b6, vS b7], AV.ptr 0 0, AV.ptr 1 0, vB false, vI 6, vJ, vJ, vJ, vJ, vJ, vJ, vJ, vJ, vJ, vJ, vJ], ob := [(0, AO.box [vS a0, vS a1, vS a2, vS a3, vS a4, vS a5, vS a6, vS a7]), (1, AO.box [vS b0, vS b1, vS b2, vS b3, vS b4, vS b5, vS b6, vS b7])], nx := 1000000, ps := [] })) := by kernel_rfl
theorem b110_6 (L : Lp) (R : Option Res → Prop) (N : St → Prop) (a0 a1 a2 a3 a4 a5 a6 a7 b0 b1 b2 b3 b4 b5 b6 b7 : ByteArray) : (evP E110 G110 L (lp110 2) (st110 a0 a1 a2 a3 a4 a5 a6 a7 b0 b1 b2 b3 b4 b5 b6 b7 6) (rk110 L R 2 N)) = (
    br (!strEq a6 b6) (R (some { av := vB false, obs := [], outs := [] })) (N { tm := [AV.agg [vS a0, vS a1, vS a2, vS a3, vS a4, vS a5, vS a6, vS a7], AV.agg [vS b0, vS b1, vS b2, vS b3, vS b4, vS b5, vS b6, vS b7], AV.ptr 0 0, AV.ptr 1 0, vB false, vI 7, vJ, vJ, vJ, vJ, vJ, vJ, vJ, vJ, vJ, vJ, vJ], ob := [(0, AO.box [vS a0, vS a1, vS a2, vS a3, vS a4, vS a5, vS a6, vS a7]), (1, AO.box [vS b0, vS b1, vS b2, vS b3, vS b4, vS b5, vS b6, vS b7])], nx := 1000000, ps := [] })) := by kernel_rfl
theorem b110_7 (L : Lp) (R : Option Res → Prop) (N : St → Prop) (a0 a1 a2 a3 a4 a5 a6 a7 b0 b1 b2 b3 b4 b5 b6 b7 : ByteArray) : (evP E110 G110 L (lp110 2) (st110 a0 a1 a2 a3 a4 a5 a6 a7 b0 b1 b2 b3 b4 b5 b6 b7 7) (rk110 L R 2 N)) = (
    br (!strEq a7 b7) (R (some { av := vB false, obs := [], outs := [] })) (N { tm := [AV.agg [vS a0, vS a1, vS a2, vS a3, vS a4, vS a5, vS a6, vS a7], AV.agg [vS b0, vS b1, vS b2, vS b3, vS b4, vS b5, vS b6, vS b7], AV.ptr 0 0, AV.ptr 1 0, vB false, vI 8, vJ, vJ, vJ, vJ, vJ, vJ, vJ, vJ, vJ, vJ, vJ], ob := [(0, AO.box [vS a0, vS a1, vS a2, vS a3, vS a4, vS a5, vS a6, vS a7]), (1, AO.box [vS b0, vS b1, vS b2, vS b3, vS b4, vS b5, vS b6, vS b7])], nx := 1000000, ps := [] })) := by kernel_rfl
theorem b110_8 (L : Lp) (R : Option Res → Prop) (N : St → Prop) (a0 a1 a2 a3 a4 a5 a6 a7 b0 b1 b2 b3 b4 b5 b6 b7 : ByteArray) : (evP E110 G110 L (lp110 2) (st110 a0 a1 a2 a3 a4 a5 a6 a7 b0 b1 b2 b3 b4 b5 b6 b7 8) (rk110 L R 2 N)) = (
    R (some { av := vB true, obs := [], outs := [] })) := by kernel_rfl
def p110 (a0 a1 a2 a3 a4 a5 a6 a7 b0 b1 b2 b3 b4 b5 b6 b7 : ByteArray) : Nat → Bool
  | 0 => strEq a0 b0
  | 1 => strEq a1 b1
  | 2 => strEq a2 b2
  | 3 => strEq a3 b3
  | 4 => strEq a4 b4
  | 5 => strEq a5 b5
  | 6 => strEq a6 b6
  | _ => strEq a7 b7
theorem p110_all (a0 a1 a2 a3 a4 a5 a6 a7 b0 b1 b2 b3 b4 b5 b6 b7 : ByteArray) : allB 8 (p110 a0 a1 a2 a3 a4 a5 a6 a7 b0 b1 b2 b3 b4 b5 b6 b7) = elemEq k8 (a0, a1, a2, a3, a4, a5, a6, a7, ()) (b0, b1, b2, b3, b4, b5, b6, b7, ()) := by
  simp [allB, show List.range 8 = [0, 1, 2, 3, 4, 5, 6, 7] from rfl, p110, elemEq, ckEq]
theorem h110 : G1Ok Tryd.prog 110 g110 := by
  intro args obs k h
  unfold g110 at h
  split at h
  · rename_i k a0 a1 a2 a3 a4 a5 a6 a7 b0 b1 b2 b3 b4 b5 b6 b7
    refine ⟨_, ctr_fn ok0 hg110 Tryd.func110 (by kernel_rfl) (by kernel_rfl) (by kernel_rfl) fun C => ?_, h⟩
    rw [e110]
    refine loopAll okf110 hg110 (st110 a0 a1 a2 a3 a4 a5 a6 a7 b0 b1 b2 b3 b4 b5 b6 b7) 8 (p110 a0 a1 a2 a3 a4 a5 a6 a7 b0 b1 b2 b3 b4 b5 b6 b7) (by omega) (fun N i hi hw next fails done => ?_)
    rw [p110_all] at fails done
    have cs : i = 0 ∨ i = 1 ∨ i = 2 ∨ i = 3 ∨ i = 4 ∨ i = 5 ∨ i = 6 ∨ i = 7 ∨ i = 8 := by omega
    rcases cs with rfl | rfl | rfl | rfl | rfl | rfl | rfl | rfl | rfl
    · show evP E110 G110 _ (lp110 2) (st110 a0 a1 a2 a3 a4 a5 a6 a7 b0 b1 b2 b3 b4 b5 b6 b7 0) (rk110 _ _ 2 _)
      rw [b110_0]
      refine br_not (fun h => ?_) (fun h => ?_)
      · show _ = _
        rw [fails (by omega) h]
      · exact next (by omega) h
    · show evP E110 G110 _ (lp110 2) (st110 a0 a1 a2 a3 a4 a5 a6 a7 b0 b1 b2 b3 b4 b5 b6 b7 1) (rk110 _ _ 2 _)
      rw [b110_1]
      refine br_not (fun h => ?_) (fun h => ?_)
      · show _ = _
        rw [fails (by omega) h]
      · exact next (by omega) h
    · show evP E110 G110 _ (lp110 2) (st110 a0 a1 a2 a3 a4 a5 a6 a7 b0 b1 b2 b3 b4 b5 b6 b7 2) (rk110 _ _ 2 _)
      rw [b110_2]
      refine br_not (fun h => ?_) (fun h => ?_)
      · show _ = _
        rw [fails (by omega) h]
      · exact next (by omega) h
    · show evP E110 G110 _ (lp110 2) (st110 a0 a1 a2 a3 a4 a5 a6 a7 b0 b1 b2 b3 b4 b5 b6 b7 3) (rk110 _ _ 2 _)
      rw [b110_3]
      refine br_not (fun h => ?_) (fun h => ?_)
      · show _ = _
        rw [fails (by omega) h]
      · exact next (by omega) h
    · show evP E110 G110 _ (lp110 2) (st110 a0 a1 a2 a3 a4 a5 a6 a7 b0 b1 b2 b3 b4 b5 b6 b7 4) (rk110 _ _ 2 _)
      rw [b110_4]
      refine br_not (fun h => ?_) (fun h => ?_)
      · show _ = _
        rw [fails (by omega) h]
      · exact next (by omega) h
    · show evP E110 G110 _ (lp110 2) (st110 a0 a1 a2 a3 a4 a5 a6 a7 b0 b1 b2 b3 b4 b5 b6 b7 5) (rk110 _ _ 2 _)
      rw [b110_5]
      refine br_not (fun h => ?_) (fun h => ?_)
      · show _ = _
        rw [fails (by omega) h]
      · exact next (by omega) h
    · show evP E110 G110 _ (lp110 2) (st110 a0 a1 a2 a3 a4 a5 a6 a7 b0 b1 b2 b3 b4 b5 b6 b7 6) (rk110 _ _ 2 _)
      rw [b110_6]
      refine br_not (fun h => ?_) (fun h => ?_)
      · show _ = _
        rw [fails (by omega) h]
      · exact next (by omega) h
    · show evP E110 G110 _ (lp110 2) (st110 a0 a1 a2 a3 a4 a5 a6 a7 b0 b1 b2 b3 b4 b5 b6 b7 7) (rk110 _ _ 2 _)
      rw [b110_7]
      refine br_not (fun h => ?_) (fun h => ?_)
      · show _ = _
        rw [fails (by omega) h]
      · exact next (by omega) h
    · show evP E110 G110 _ (lp110 2) (st110 a0 a1 a2 a3 a4 a5 a6 a7 b0 b1 b2 b3 b4 b5 b6 b7 8) (rk110 _ _ 2 _)
      rw [b110_8]
      show _ = _
      rw [done (by omega)]
  · exact h.elim
def g95 : G1
  | [.agg [.val (.string a0), .val (.int .i64 a1), .val (.string a2), .val (.string a3), .val (.string a4), .val (.string a5), .val (.string a6), .val (.string a7), .val (.string a8), .val (.string a9), .val (.string a10)], .agg [.val (.string b0), .val (.int .i64 b1), .val (.string b2), .val (.string b3), .val (.string b4), .val (.string b5), .val (.string b6), .val (.string b7), .val (.string b8), .val (.string b9), .val (.string b10)]], [], k => k ⟨.val (.bool (elemEq kb (a0, a1, a2, a3, a4, a5, a6, a7, a8, a9, a10, ()) (b0, b1, b2, b3, b4, b5, b6, b7, b8, b9, b10, ()))), [], []⟩
  | _, _, _ => False
noncomputable def E95 : Env := E0.of Tryd.f95
noncomputable def G95 : Gk := gk [(110, g110)]
noncomputable def lp95 (n : Nat) : Code := (loopOf n (codeOf Tryd.f95)).getD .skip
noncomputable def ct95 (L : Lp) (R : Option Res → Prop) (n : Nat) : Kt := contOf E95 G95 L n (codeOf Tryd.f95) (endK E95 Tryd.f95.results.toList R)
noncomputable def rk95 (L : Lp) (R : Option Res → Prop) (n : Nat) (N : St → Prop) : Kt := rk (jof E95 (lp95 n)) N (ct95 L R n)
noncomputable def LOOP95 (L : Lp) (R : Option Res → Prop) (n : Nat) (st : St) : Prop := L (lp95 n) st (ct95 L R n)
theorem hg95 : HG Tryd.prog G95 := (hg_cons h110 hg_nil)
theorem okf95 : Ok Tryd.prog E95 := ok0.of Tryd.f95
theorem e95 (L : Lp) (R : Option Res → Prop) (a0 : ByteArray) (a1 : Int) (a2 : ByteArray) (a3 : ByteArray) (a4 : ByteArray) (a5 : ByteArray) (a6 : ByteArray) (a7 : ByteArray) (a8 : ByteArray) (a9 : ByteArray) (a10 : ByteArray) (b0 : ByteArray) (b1 : Int) (b2 : ByteArray) (b3 : ByteArray) (b4 : ByteArray) (b5 : ByteArray) (b6 : ByteArray) (b7 : ByteArray) (b8 : ByteArray) (b9 : ByteArray) (b10 : ByteArray) : (bodyP E0 G95 L Tryd.f95 [.agg [.val (.string a0), .val (.int .i64 a1), .val (.string a2), .val (.string a3), .val (.string a4), .val (.string a5), .val (.string a6), .val (.string a7), .val (.string a8), .val (.string a9), .val (.string a10)], .agg [.val (.string b0), .val (.int .i64 b1), .val (.string b2), .val (.string b3), .val (.string b4), .val (.string b5), .val (.string b6), .val (.string b7), .val (.string b8), .val (.string b9), .val (.string b10)]] [] R) = (
    br (!strEq a0 b0) (R (some { av := vB false, obs := [], outs := [] })) (br (a1 != b1) (R (some { av := vB false, obs := [], outs := [] })) (br (!strEq a2 b2) (R (some { av := vB false, obs := [], outs := [] })) (br (!elemEq k8 (a3, a4, a5, a6, a7, a8, a9, a10, ()) (b3, b4, b5, b6, b7, b8, b9, b10, ())) (R (some { av := vB false, obs := [], outs := [] })) (R (some { av := vB true, obs := [], outs := [] })))))) := by kernel_rfl
theorem h95 : G1Ok Tryd.prog 95 g95 := by
  intro args obs k h
  unfold g95 at h
  split at h
  · rename_i k a0 a1 a2 a3 a4 a5 a6 a7 a8 a9 a10 b0 b1 b2 b3 b4 b5 b6 b7 b8 b9 b10
    refine ⟨_, ctr_fn ok0 hg95 Tryd.func95 (by kernel_rfl) (by kernel_rfl) (by kernel_rfl) fun C => ?_, h⟩
    rw [e95]
    repeat' (first | refine br_intro (fun h => ?_) (fun h => ?_))
    all_goals simp_all [elemEq, ckEq]
    all_goals grind
  · exact h.elim
def g68 : G1
  | [.rsl [.str, .int .i64, .str, .str, .str, .str, .str, .str, .str, .str, .str] xs, .rsl [.str, .int .i64, .str, .str, .str, .str, .str, .str, .str, .str, .str] ys], [], k => br (decide (xs.length ≤ 1048576)) (k ⟨.val (.bool (eqR kb xs ys)), [], []⟩) False
  | _, _, _ => False
noncomputable def E68 : Env := E0.of Tryd.f68
noncomputable def G68 : Gk := gk [(95, g95)]
noncomputable def lp68 (n : Nat) : Code := (loopOf n (codeOf Tryd.f68)).getD .skip
noncomputable def ct68 (L : Lp) (R : Option Res → Prop) (n : Nat) : Kt := contOf E68 G68 L n (codeOf Tryd.f68) (endK E68 Tryd.f68.results.toList R)
noncomputable def rk68 (L : Lp) (R : Option Res → Prop) (n : Nat) (N : St → Prop) : Kt := rk (jof E68 (lp68 n)) N (ct68 L R n)
noncomputable def LOOP68 (L : Lp) (R : Option Res → Prop) (n : Nat) (st : St) : Prop := L (lp68 n) st (ct68 L R n)
theorem hg68 : HG Tryd.prog G68 := (hg_cons h95 hg_nil)
theorem okf68 : Ok Tryd.prog E68 := ok0.of Tryd.f68
theorem e68 (L : Lp) (R : Option Res → Prop) (xs ys : List (Elem kb)) : (bodyP E0 G68 L Tryd.f68 [.rsl kb xs, .rsl kb ys] [] R) = (
    br ((↑xs.length : Int) != (↑ys.length : Int)) (R (some { av := vB false, obs := [], outs := [] })) (LOOP68 L R 4 { tm := [AV.rsl kb xs, AV.rsl kb ys, vU, vU, vB false, vI 0, vJ, vJ, vJ, vJ, vJ, vJ, vJ, vJ, vJ, vJ, vJ, vJ, vJ, vJ, vJ, vJ, vJ, vJ, vJ, vJ, vJ], ob := [], nx := 1000000, ps := [] })) := by kernel_rfl
def st68 (xs ys : List (Elem kb)) (i : Int) : St :=  ⟨[AV.rsl kb xs, AV.rsl kb ys, vU, vU, vB false, .val (.int .i64 i), vJ, vJ, vJ, vJ, vJ, vJ, vJ, vJ, vJ, vJ, vJ, vJ, vJ, vJ, vJ, vJ, vJ, vJ, vJ, vJ, vJ], [], 1000000, []⟩
theorem b68 (L : Lp) (R : Option Res → Prop) (N : St → Prop) (xs ys : List (Elem kb)) (i : Int) : (evP E68 G68 L (lp68 4) (st68 xs ys i) (rk68 L R 4 N)) = (
    br (decide (i < (↑xs.length : Int))) (br (decide (0 ≤ i ∧ i < (↑xs.length : Int))) (br (decide (0 ≤ i ∧ i < (↑ys.length : Int))) (br (!elemEq kb (xs.getD i.toNat (edflt kb)) (ys.getD i.toNat (edflt kb))) (R (some { av := vB false, obs := [], outs := [] })) (N { tm := [AV.rsl kb xs, AV.rsl kb ys, vU, vU, vB false, vI (IntKind.i64.wrap (i + 1)), vJ, vJ, vJ, vJ, vJ, vJ, vJ, vJ, vJ, vJ, vJ, vJ, vJ, vJ, vJ, vJ, vJ, vJ, vJ, vJ, vJ], ob := [], nx := 1000000, ps := [] })) False) False) (R (some { av := vB true, obs := [], outs := [] }))) := by kernel_rfl
theorem h68 : G1Ok Tryd.prog 68 g68 := by
  intro args obs k h
  unfold g68 at h
  split at h
  · rename_i k xs ys
    obtain ⟨hlen, h⟩ := brd h
    refine ⟨_, ctr_fn ok0 hg68 Tryd.func68 (by kernel_rfl) (by kernel_rfl) (by kernel_rfl) fun C => ?_, h⟩
    rw [e68]
    refine br_intro (fun hb => ?_) (fun hb => ?_)
    · show _ = _
      rw [show eqR kb xs ys = false from eqL_len (fun e => by rw [e] at hb; simp at hb)]
    have hl : xs.length = ys.length := by simp at hb; omega
    exact loopAll okf68 hg68 (fun i => st68 xs ys i) xs.length (fun i => elemEq kb (xs.getD i (edflt kb)) (ys.getD i (edflt kb))) (by omega) (fun N i hi hw next fails done => by
      show evP E68 G68 _ (lp68 4) (st68 xs ys i) (rk68 _ _ 4 _)
      rw [b68, hw, Int.toNat_natCast]
      refine br_dec (fun h2 => br_yes ⟨by omega, h2⟩ (br_yes ⟨by omega, by omega⟩ (br_not (fun h3 => ?_) (fun h3 => ?_)))) (fun h2 => ?_)
      · show _ = _
        rw [show eqR kb xs ys = false from (eqL_of hl).trans (fails (by omega) h3)]
      · exact next (by omega) h3
      · show _ = _
        rw [show eqR kb xs ys = true from (eqL_of hl).trans (done (by omega))])
  · exact h.elim
noncomputable def E36 : Env := E0.of Tryd.f36
noncomputable def G36 : Gk := gk [(68, g68)]
noncomputable def lp36 (n : Nat) : Code := (loopOf n (codeOf Tryd.f36)).getD .skip
noncomputable def ct36 (L : Lp) (R : Option Res → Prop) (n : Nat) : Kt := contOf E36 G36 L n (codeOf Tryd.f36) (endK E36 Tryd.f36.results.toList R)
noncomputable def rk36 (L : Lp) (R : Option Res → Prop) (n : Nat) (N : St → Prop) : Kt := rk (jof E36 (lp36 n)) N (ct36 L R n)
noncomputable def LOOP36 (L : Lp) (R : Option Res → Prop) (n : Nat) (st : St) : Prop := L (lp36 n) st (ct36 L R n)
theorem hg36 : HG Tryd.prog G36 := (hg_cons h68 hg_nil)
theorem okf36 : Ok Tryd.prog E36 := ok0.of Tryd.f36
theorem e36 (L : Lp) (R : Option Res → Prop) (xs ys : List (Elem kb)) : (bodyP E0 G36 L Tryd.f36 [.agg [.rsl kb xs], .agg [.rsl kb ys]] [] R) = (
    br (decide (xs.length ≤ 1048576)) (br (!eqR kb xs ys) (R (some { av := vB false, obs := [], outs := [] })) (R (some { av := vB true, obs := [], outs := [] }))) False) := by kernel_rfl
theorem h36 : G1Ok Tryd.prog 36 g36 := by
  intro args obs k h
  unfold g36 at h
  split at h
  · rename_i k xs ys
    obtain ⟨hlen, h⟩ := brd h
    refine ⟨_, ctr_fn ok0 hg36 Tryd.func36 (by kernel_rfl) (by kernel_rfl) (by kernel_rfl) fun C => ?_, h⟩
    rw [e36]
    refine br_yes hlen (br_not (fun h => ?_) (fun h => ?_)) <;> rw [h]
  · exact h.elim
end Go.Proofs.YtljilcingbohkaaDoor.Ev

