/- The law of CoreMap. -/
import Derived.Test.YtljilcingbohkaaDoorD6
namespace Go.Proofs.YtljilcingbohkaaDoor.Ev
open Go
set_option linter.unusedVariables false
set_option linter.unusedSimpArgs false
set_option maxRecDepth 100000
def g21 : G1
  | [.agg us], [], k => match elemOf [.int .i64, .int .i64, .int .i64, .int .i64, .int .i64, .int .i64, .int .i64, .int .i64, .int .i64, .int .i64, .int .i64, .int .i64, .int .i64, .int .i64, .int .i64, .int .i64, .int .i64, .int .i64, .int .i64, .int .i64, .int .i64, .int .i64, .int .i64, .int .i64] us with
    | some a => k ⟨.agg ((vals [.int .i64, .int .i64, .int .i64, .int .i64, .int .i64, .int .i64, .int .i64, .int .i64, .int .i64, .int .i64, .int .i64, .int .i64, .int .i64, .int .i64, .int .i64, .int .i64, .int .i64, .int .i64, .int .i64, .int .i64, .int .i64, .int .i64, .int .i64, .int .i64] a).map .val), [], []⟩
    | none => False
  | _, _, _ => False
noncomputable def E21 : Env := E0.of Tryd.f21
noncomputable def G21 : Gk := gk [(18, g18)]
noncomputable def lp21 (n : Nat) : Code := (loopOf n (codeOf Tryd.f21)).getD .skip
noncomputable def ct21 (L : Lp) (R : Option Res → Prop) (n : Nat) : Kt := contOf E21 G21 L n (codeOf Tryd.f21) (endK E21 Tryd.f21.results.toList R)
noncomputable def rk21 (L : Lp) (R : Option Res → Prop) (n : Nat) (N : St → Prop) : Kt := rk (jof E21 (lp21 n)) N (ct21 L R n)
noncomputable def LOOP21 (L : Lp) (R : Option Res → Prop) (n : Nat) (st : St) : Prop := L (lp21 n) st (ct21 L R n)
theorem hg21 : HG Tryd.prog G21 := (hg_cons h18 hg_nil)
theorem okf21 : Ok Tryd.prog E21 := ok0.of Tryd.f21
theorem e21 (L : Lp) (R : Option Res → Prop) (a0 : Int) (a1 : Int) (a2 : Int) (a3 : Int) (a4 : Int) (a5 : Int) (a6 : Int) (a7 : Int) (a8 : Int) (a9 : Int) (a10 : Int) (a11 : Int) (a12 : Int) (a13 : Int) (a14 : Int) (a15 : Int) (a16 : Int) (a17 : Int) (a18 : Int) (a19 : Int) (a20 : Int) (a21 : Int) (a22 : Int) (a23 : Int) : (bodyP E0 G21 L Tryd.f21 [.agg [.val (.int .i64 a0), .val (.int .i64 a1), .val (.int .i64 a2), .val (.int .i64 a3), .val (.int .i64 a4), .val (.int .i64 a5), .val (.int .i64 a6), .val (.int .i64 a7), .val (.int .i64 a8), .val (.int .i64 a9), .val (.int .i64 a10), .val (.int .i64 a11), .val (.int .i64 a12), .val (.int .i64 a13), .val (.int .i64 a14), .val (.int .i64 a15), .val (.int .i64 a16), .val (.int .i64 a17), .val (.int .i64 a18), .val (.int .i64 a19), .val (.int .i64 a20), .val (.int .i64 a21), .val (.int .i64 a22), .val (.int .i64 a23)]] [] R) = (
    LOOP21 L R 3 { tm := [AV.agg [vI a0, vI a1, vI a2, vI a3, vI a4, vI a5, vI a6, vI a7, vI a8, vI a9, vI a10, vI a11, vI a12, vI a13, vI a14, vI a15, vI a16, vI a17, vI a18, vI a19, vI a20, vI a21, vI a22, vI a23], AV.ptr 0 0, AV.ptr 1 0, AV.ptr 2 0, vI 0, vJ, vJ, vJ, vJ, vJ, vJ, vJ, vJ, vJ, vJ, vU], ob := [(0, AO.box [vI a0, vI a1, vI a2, vI a3, vI a4, vI a5, vI a6, vI a7, vI a8, vI a9, vI a10, vI a11, vI a12, vI a13, vI a14, vI a15, vI a16, vI a17, vI a18, vI a19, vI a20, vI a21, vI a22, vI a23]), (1, AO.box [vI 0, vI 0, vI 0, vI 0, vI 0, vI 0, vI 0, vI 0, vI 0, vI 0, vI 0, vI 0, vI 0, vI 0, vI 0, vI 0, vI 0, vI 0, vI 0, vI 0, vI 0, vI 0, vI 0, vI 0]), (2, AO.box [vI 0, vI 0, vI 0, vI 0, vI 0, vI 0, vI 0, vI 0, vI 0, vI 0, vI 0, vI 0, vI 0, vI 0, vI 0, vI 0, vI 0, vI 0, vI 0, vI 0, vI 0, vI 0, vI 0, vI 0])], nx := 1000000, ps := [] }) := by kernel_rfl
def st21 (a0 : Int) (a1 : Int) (a2 : Int) (a3 : Int) (a4 : Int) (a5 : Int) (a6 : Int) (a7 : Int) (a8 : Int) (a9 : Int) (a10 : Int) (a11 : Int) (a12 : Int) (a13 : Int) (a14 : Int) (a15 : Int) (a16 : Int) (a17 : Int) (a18 : Int) (a19 : Int) (a20 : Int) (a21 : Int) (a22 : Int) (a23 : Int) (i : Int) (b0 : Int) (b1 : Int) (b2 : Int) (b3 : Int) (b4 : Int) (b5 : Int) (b6 : Int) (b7 : Int) (b8 : Int) (b9 : Int) (b10 : Int) (b11 : Int) (b12 : Int) (b13 : Int) (b14 : Int) (b15 : Int) (b16 : Int) (b17 : Int) (b18 : Int) (b19 : Int) (b20 : Int) (b21 : Int) (b22 : Int) (b23 : Int) : St :=  ⟨[AV.agg [vI a0, vI a1, vI a2, vI a3, vI a4, vI a5, vI a6, vI a7, vI a8, vI a9, vI a10, vI a11, vI a12, vI a13, vI a14, vI a15, vI a16, vI a17, vI a18, vI a19, vI a20, vI a21, vI a22, vI a23], AV.ptr 0 0, AV.ptr 1 0, AV.ptr 2 0, .val (.int .i64 i), vJ, vJ, vJ, vJ, vJ, vJ, vJ, vJ, vJ, vJ, vU], [(0, AO.box [vI a0, vI a1, vI a2, vI a3, vI a4, vI a5, vI a6, vI a7, vI a8, vI a9, vI a10, vI a11, vI a12, vI a13, vI a14, vI a15, vI a16, vI a17, vI a18, vI a19, vI a20, vI a21, vI a22, vI a23]), (1, AO.box [vI 0, vI 0, vI 0, vI 0, vI 0, vI 0, vI 0, vI 0, vI 0, vI 0, vI 0, vI 0, vI 0, vI 0, vI 0, vI 0, vI 0, vI 0, vI 0, vI 0, vI 0, vI 0, vI 0, vI 0]), (2, .box [.val (.int .i64 b0), .val (.int .i64 b1), .val (.int .i64 b2), .val (.int .i64 b3), .val (.int .i64 b4), .val (.int .i64 b5), .val (.int .i64 b6), .val (.int .i64 b7), .val (.int .i64 b8), .val (.int .i64 b9), .val (.int .i64 b10), .val (.int .i64 b11), .val (.int .i64 b12), .val (.int .i64 b13), .val (.int .i64 b14), .val (.int .i64 b15), .val (.int .i64 b16), .val (.int .i64 b17), .val (.int .i64 b18), .val (.int .i64 b19), .val (.int .i64 b20), .val (.int .i64 b21), .val (.int .i64 b22), .val (.int .i64 b23)])], 1000000, []⟩
theorem b21_0 (L : Lp) (R : Option Res → Prop) (N : St → Prop) (a0 : Int) (a1 : Int) (a2 : Int) (a3 : Int) (a4 : Int) (a5 : Int) (a6 : Int) (a7 : Int) (a8 : Int) (a9 : Int) (a10 : Int) (a11 : Int) (a12 : Int) (a13 : Int) (a14 : Int) (a15 : Int) (a16 : Int) (a17 : Int) (a18 : Int) (a19 : Int) (a20 : Int) (a21 : Int) (a22 : Int) (a23 : Int) : (evP E21 G21 L (lp21 3) (st21 a0 a1 a2 a3 a4 a5 a6 a7 a8 a9 a10 a11 a12 a13 a14 a15 a16 a17 a18 a19 a20 a21 a22 a23 0 0 0 0 0 0 0 0 0 0 0 0 0 0 0 0 0 0 0 0 0 0 0 0 0) (rk21 L R 3 N)) = (
    N { tm := [AV.agg [vI a0, vI a1, vI a2, vI a3, vI a4, vI a5, vI a6, vI a7, vI a8, vI a9, vI a10, vI a11, vI a12, vI a13, vI a14, vI a15, vI a16, vI a17, vI a18, vI a19, vI a20, vI a21, vI a22, vI a23], AV.ptr 0 0, AV.ptr 1 0, AV.ptr 2 0, vI 1, vJ, vJ, vJ, vJ, vJ, vJ, vJ, vJ, vJ, vJ, vU], ob := [(0, AO.box [vI a0, vI a1, vI a2, vI a3, vI a4, vI a5, vI a6, vI a7, vI a8, vI a9, vI a10, vI a11, vI a12, vI a13, vI a14, vI a15, vI a16, vI a17, vI a18, vI a19, vI a20, vI a21, vI a22, vI a23]), (1, AO.box [vI 0, vI 0, vI 0, vI 0, vI 0, vI 0, vI 0, vI 0, vI 0, vI 0, vI 0, vI 0, vI 0, vI 0, vI 0, vI 0, vI 0, vI 0, vI 0, vI 0, vI 0, vI 0, vI 0, vI 0]), (2, AO.box [vI a0, vI a1, vI a2, vI 0, vI 0, vI 0, vI 0, vI 0, vI 0, vI 0, vI 0, vI 0, vI 0, vI 0, vI 0, vI 0, vI 0, vI 0, vI 0, vI 0, vI 0, vI 0, vI 0, vI 0])], nx := 1000000, ps := [] }) := by kernel_rfl
theorem b21_1 (L : Lp) (R : Option Res → Prop) (N : St → Prop) (a0 : Int) (a1 : Int) (a2 : Int) (a3 : Int) (a4 : Int) (a5 : Int) (a6 : Int) (a7 : Int) (a8 : Int) (a9 : Int) (a10 : Int) (a11 : Int) (a12 : Int) (a13 : Int) (a14 : Int) (a15 : Int) (a16 : Int) (a17 : Int) (a18 : Int) (a19 : Int) (a20 : Int) (a21 : Int) (a22 : Int) (a23 : Int) : (evP E21 G21 L (lp21 3) (st21 a0 a1 a2 a3 a4 a5 a6 a7 a8 a9 a10 a11 a12 a13 a14 a15 a16 a17 a18 a19 a20 a21 a22 a23 1 a0 a1 a2 0 0 0 0 0 0 0 0 0 0 0 0 0 0 0 0 0 0 0 0 0) (rk21 L R 3 N)) = (
    N { tm := [AV.agg [vI a0, vI a1, vI a2, vI a3, vI a4, vI a5, vI a6, vI a7, vI a8, vI a9, vI a10, vI a11, vI a12, vI a13, vI a14, vI a15, vI a16, vI a17, vI a18, vI a19, vI a20, vI a21, vI a22, vI a23], AV.ptr 0 0, AV.ptr 1 0, AV.ptr 2 0, vI 2, vJ, vJ, vJ, vJ, vJ, vJ, vJ, vJ, vJ, vJ, vU], ob := [(0, AO.box [vI a0, vI a1, vI a2, vI a3, vI a4, vI a5, vI a6, vI a7, vI a8, vI a9, vI a10, vI a11, vI a12, vI a13, vI a14, vI a15, vI a16, vI a17, vI a18, vI a19, vI a20, vI a21, vI a22, vI a23]), (1, AO.box [vI 0, vI 0, vI 0, vI 0, vI 0, vI 0, vI 0, vI 0, vI 0, vI 0, vI 0, vI 0, vI 0, vI 0, vI 0, vI 0, vI 0, vI 0, vI 0, vI 0, vI 0, vI 0, vI 0, vI 0]), (2, AO.box [vI a0, vI a1, vI a2, vI a3, vI a4, vI a5, vI 0, vI 0, vI 0, vI 0, vI 0, vI 0, vI 0, vI 0, vI 0, vI 0, vI 0, vI 0, vI 0, vI 0, vI 0, vI 0, vI 0, vI 0])], nx := 1000000, ps := [] }) := by kernel_rfl
theorem b21_2 (L : Lp) (R : Option Res → Prop) (N : St → Prop) (a0 : Int) (a1 : Int) (a2 : Int) (a3 : Int) (a4 : Int) (a5 : Int) (a6 : Int) (a7 : Int) (a8 : Int) (a9 : Int) (a10 : Int) (a11 : Int) (a12 : Int) (a13 : Int) (a14 : Int) (a15 : Int) (a16 : Int) (a17 : Int) (a18 : Int) (a19 : Int) (a20 : Int) (a21 : Int) (a22 : Int) (a23 : Int) : (evP E21 G21 L (lp21 3) (st21 a0 a1 a2 a3 a4 a5 a6 a7 a8 a9 a10 a11 a12 a13 a14 a15 a16 a17 a18 a19 a20 a21 a22 a23 2 a0 a1 a2 a3 a4 a5 0 0 0 0 0 0 0 0 0 0 0 0 0 0 0 0 0 0) (rk21 L R 3 N)) = (
    N { tm := [AV.agg [vI a0, vI a1, vI a2, vI a3, vI a4, vI a5, vI a6, vI a7, vI a8, vI a9, vI a10, vI a11, vI a12, vI a13, vI a14, vI a15, vI a16, vI a17, vI a18, vI a19, vI a20, vI a21, vI a22, vI a23], AV.ptr 0 0, AV.ptr 1 0, AV.ptr 2 0, vI 3, vJ, vJ, vJ, vJ, vJ, vJ, vJ, vJ, vJ, vJ, vU], ob := [(0, AO.box [vI a0, vI a1, vI a2, vI a3, vI a4, vI a5, vI a6, vI a7, vI a8, vI a9, vI a10, vI a11, vI a12, vI a13, vI a14, vI a15, vI a16, vI a17, vI a18, vI a19, vI a20, vI a21, vI a22, vI a23]), (1, AO.box [vI 0, vI 0, vI 0, vI 0, vI 0, vI 0, vI 0, vI 0, vI 0, vI 0, vI 0, vI 0, vI 0, vI 0, vI 0, vI 0, vI 0, vI 0, vI 0, vI 0, vI 0, vI 0, vI 0, vI 0]), (2, AO.box [vI a0, vI a1, vI a2, vI a3, vI a4, vI a5, vI a6, vI a7, vI a8, vI 0, vI 0, vI 0, vI 0, vI 0, vI 0, vI 0, vI 0, vI 0, vI 0, vI 0, vI 0, vI 0, vI 0, vI 0])], nx := 1000000, ps := [] }) := by kernel_rfl
theorem b21_3 (L : Lp) (R : Option Res → Prop) (N : St → Prop) (a0 : Int) (a1 : Int) (a2 : Int) (a3 : Int) (a4 : Int) (a5 : Int) (a6 : Int) (a7 : Int) (a8 : Int) (a9 : Int) (a10 : Int) (a11 : Int) (a12 : Int) (a13 : Int) (a14 : Int) (a15 : Int) (a16 : Int) (a17 : Int) (a18 : Int) (a19 : Int) (a20 : Int) (a21 : Int) (a22 : Int) (a23 : Int) : (evP E21 G21 L (lp21 3) (st21 a0 a1 a2 a3 a4 a5 a6 a7 a8 a9 a10 a11 a12 a13 a14 a15 a16 a17 a18 a19 a20 a21 a22 a23 3 a0 a1 a2 a3 a4 a5 a6 a7 a8 0 0 0 0 0 0 0 0 0 0 0 0 0 0 0) (rk21 L R 3 N)) = (
    N { tm := [AV.agg [vI a0, vI a1, vI a2, vI a3, vI a4, vI a5, vI a6, vI a7, vI a8, vI a9, vI a10, vI a11, vI a12, vI a13, vI a14, vI a15, vI a16, vI a17, vI a18, vI a19, vI a20, vI a21, vI a22, vI a23], AV.ptr 0 0, AV.ptr 1 0, AV.ptr 2 0, vI 4, vJ, vJ, vJ, vJ, vJ, vJ, vJ, vJ, vJ, vJ, vU], ob := [(0, AO.box [vI a0, vI a1, vI a2, vI a3, vI a4, vI a5, vI a6, vI a7, vI a8, vI a9, vI a10, vI a11, vI a12, vI a13, vI a14, vI a15, vI a16, vI a17, vI a18, vI a19, vI a20, vI a21, vI a22, vI a23]), (1, AO.box [vI 0, vI 0, vI 0, vI 0, vI 0, vI 0, vI 0, vI 0, vI 0, vI 0, vI 0, vI 0, vI 0, vI 0, vI 0, vI 0, vI 0, vI 0, vI 0, vI 0, vI 0, vI 0, vI 0, vI 0]), (2, AO.box [vI a0, vI a1, vI a2, vI a3, vI a4, vI a5, vI a6, vI a7, vI a8, vI a9, vI a10, vI a11, vI 0, vI 0, vI 0, vI 0, vI 0, vI 0, vI 0, vI 0, vI 0, vI 0, vI 0, vI 0])], nx := 1000000, ps := [] }) := by kernel_rfl
theorem b21_4 (L : Lp) (R : Option Res → Prop) (N : St → Prop) (a0 : Int) (a1 : Int) (a2 : Int) (a3 : Int) (a4 : Int) (a5 : Int) (a6 : Int) (a7 : Int) (a8 : Int) (a9 : Int) (a10 : Int) (a11 : Int) (a12 : Int) (a13 : Int) (a14 : Int) (a15 : Int) (a16 : Int) (a17 : Int) (a18 : Int) (a19 : Int) (a20 : Int) (a21 : Int) (a22 : Int) (a23 : Int) : (evP E21 G21 L (lp21 3) (st21 a0 a1 a2 a3 a4 a5 a6 a7 a8 a9 a10 a11 a12 a13 a14 a15 a16 a17 a18 a19 a20 a21 a22 a23 4 a0 a1 a2 a3 a4 a5 a6 a7 a8 a9 a10 a11 0 0 0 0 0 0 0 0 0 0 0 0) (rk21 L R 3 N)) = (
    N { tm := [AV.agg [vI a0, vI a1, vI a2, vI a3, vI a4, vI a5, vI a6, vI a7, vI a8, vI a9, vI a10, vI a11, vI a12, vI a13, vI a14, vI a15, vI a16, vI a17, vI a18, vI a19, vI a20, vI a21, vI a22, vI a23], AV.ptr 0 0, AV.ptr 1 0, AV.ptr 2 0, vI 5, vJ, vJ, vJ, vJ, vJ, vJ, vJ, vJ, vJ, vJ, vU], ob := [(0, AO.box [vI a0, vI a1, vI a2, vI a3, vI a4, vI a5, vI a6, vI a7, vI a8, vI a9, vI a10, vI a11, vI a12, vI a13, vI a14, vI a15, vI a16, vI a17, vI a18, vI a19, vI a20, vI a21, vI a22, vI a23]), (1, AO.box [vI 0, vI 0, vI 0, vI 0, vI 0, vI 0, vI 0, vI 0, vI 0, vI 0, vI 0, vI 0, vI 0, vI 0, vI 0, vI 0, vI 0, vI 0, vI 0, vI 0, vI 0, vI 0, vI 0, vI 0]), (2, AO.box [vI a0, vI a1, vI a2, vI a3, vI a4, vI a5, vI a6, vI a7, vI a8, vI a9, vI a10, vI a11, vI a12, vI a13, vI a14, vI 0, vI 0, vI 0, vI 0, vI 0, vI 0, vI 0, vI 0, vI 0])], nx := 1000000, ps := [] }) := by kernel_rfl
theorem b21_5 (L : Lp) (R : Option Res → Prop) (N : St → Prop) (a0 : Int) (a1 : Int) (a2 : Int) (a3 : Int) (a4 : Int) (a5 : Int) (a6 : Int) (a7 : Int) (a8 : Int) (a9 : Int) (a10 : Int) (a11 : Int) (a12 : Int) (a13 : Int) (a14 : Int) (a15 : Int) (a16 : Int) (a17 : Int) (a18 : Int) (a19 : Int) (a20 : Int) (a21 : Int) (a22 : Int) (a23 : Int) : (evP E21 G21 L (lp21 3) (st21 a0 a1 a2 a3 a4 a5 a6 a7 a8 a9 a10 a11 a12 a13 a14 a15 a16 a17 a18 a19 a20 a21 a22 a23 5 a0 a1 a2 a3 a4 a5 a6 a7 a8 a9 a10 a11 a12 a13 a14 0 0 0 0 0 0 0 0 0) (rk21 L R 3 N)) = (
    N { tm := [AV.agg [vI a0, vI a1, vI a2, vI a3, vI a4, vI a5, vI a6, vI a7, vI a8, vI a9, vI a10, vI a11, vI a12, vI a13, vI a14, vI a15, vI a16, vI a17, vI a18, vI a19, vI a20, vI a21, vI a22, vI a23], AV.ptr 0 0, AV.ptr 1 0, AV.ptr 2 0, vI 6, vJ, vJ, vJ, vJ, vJ, vJ, vJ, vJ, vJ, vJ, vU], ob := [(0, AO.box [vI a0, vI a1, vI a2, vI a3, vI a4, vI a5, vI a6, vI a7, vI a8, vI a9, vI a10, vI a11, vI a12, vI a13, vI a14, vI a15, vI a16, vI a17, vI a18, vI a19, vI a20, vI a21, vI a22, vI a23]), (1, AO.box [vI 0, vI 0, vI 0, vI 0, vI 0, vI 0, vI 0, vI 0, vI 0, vI 0, vI 0, vI 0, vI 0, vI 0, vI 0, vI 0, vI 0, vI 0, vI 0, vI 0, vI 0, vI 0, vI 0, vI 0]), (2, AO.box [vI a0, vI a1, vI a2, vI a3, vI a4, vI a5, vI a6, vI a7, vI a8, vI a9, vI a10, vI a11, vI a12, vI a13, vI a14, vI a15, vI a16, vI a17, vI 0, vI 0, vI 0, vI 0, vI 0, vI 0])], nx := 1000000, ps := [] }) := by kernel_rfl
theorem b21_6 (L : Lp) (R : Option Res → Prop) (N : St → Prop) (a0 : Int) (a1 : Int) (a2 : Int) (a3 : Int) (a4 : Int) (a5 : Int) (a6 : Int) (a7 : Int) (a8 : Int) (a9 : Int) (a10 : Int) (a11 : Int) (a12 : Int) (a13 : Int) (a14 : Int) (a15 : Int) (a16 : Int) (a17 : Int) (a18 : Int) (a19 : Int) (a20 : Int) (a21 : Int) (a22 : Int) (a23 : Int) : (evP E21 G21 L (lp21 3) (st21 a0 a1 a2 a3 a4 a5 a6 a7 a8 a9 a10 a11 a12 a13 a14 a15 a16 a17 a18 a19 a20 a21 a22 a23 6 a0 a1 a2 a3 a4 a5 a6 a7 a8 a9 a10 a11 a12 a13 a14 a15 a16 a17 0 0 0 0 0 0) (rk21 L R 3 N)) = (
    N { tm := [AV.agg [vI a0, vI a1, vI a2, vI a3, vI a4, vI a5, vI a6, vI a7, vI a8, vI a9, vI a10, vI a11, vI a12, vI a13, vI a14, vI a15, vI a16, vI a17, vI a18, vI a19, vI a20, vI a21, vI a22, vI a23], AV.ptr 0 0, AV.ptr 1 0, AV.ptr 2 0, vI 7, vJ, vJ, vJ, vJ, vJ, vJ, vJ, vJ, vJ, vJ, vU], ob := [(0, AO.box [vI a0, vI a1, vI a2, vI a3, vI a4, vI a5, vI a6, vI a7, vI a8, vI a9, vI a10, vI a11, vI a12, vI a13, vI a14, vI a15, vI a16, vI a17, vI a18, vI a19, vI a20, vI a21, vI a22, vI a23]), (1, AO.box [vI 0, vI 0, vI 0, vI 0, vI 0, vI 0, vI 0, vI 0, vI 0, vI 0, vI 0, vI 0, vI 0, vI 0, vI 0, vI 0, vI 0, vI 0, vI 0, vI 0, vI 0, vI 0, vI 0, vI 0]), (2, AO.box [vI a0, vI a1, vI a2, vI a3, vI a4, vI a5, vI a6, vI a7, vI a8, vI a9, vI a10, vI a11, vI a12, vI a13, vI a14, vI a15, vI a16, vI a17, vI a18, vI a19, vI a20, vI 0, vI 0, vI 0])], nx := 1000000, ps := [] }) := by kernel_rfl
theorem b21_7 (L : Lp) (R : Option Res → Prop) (N : St → Prop) (a0 : Int) (a1 : Int) (a2 : Int) (a3 : Int) (a4 : Int) (a5 : Int) (a6 : Int) (a7 : Int) (a8 : Int) (a9 : Int) (a10 : Int) (a11 : Int) (a12 : Int) (a13 : Int) (a14 : Int) (a15 : Int) (a16 : Int) (a17 : Int) (a18 : Int) (a19 : Int) (a20 : Int) (a21 : Int) (a22 : Int) (a23 : Int) : (evP E21 G21 L (lp21 3) (st21 a0 a1 a2 a3 a4 a5 a6 a7 a8 a9 a10 a11 a12 a13 a14 a15 a16 a17 a18 a19 a20 a21 a22 a23 7 a0 a1 a2 a3 a4 a5 a6 a7 a8 a9 a10 a11 a12 a13 a14 a15 a16 a17 a18 a19 a20 0 0 0) (rk21 L R 3 N)) = (
    N { tm := [AV.agg [vI a0, vI a1, vI a2, vI a3, vI a4, vI a5, vI a6, vI a7, vI a8, vI a9, vI a10, vI a11, vI a12, vI a13, vI a14, vI a15, vI a16, vI a17, vI a18, vI a19, vI a20, vI a21, vI a22, vI a23], AV.ptr 0 0, AV.ptr 1 0, AV.ptr 2 0, vI 8, vJ, vJ, vJ, vJ, vJ, vJ, vJ, vJ, vJ, vJ, vU], ob := [(0, AO.box [vI a0, vI a1, vI a2, vI a3, vI a4, vI a5, vI a6, vI a7, vI a8, vI a9, vI a10, vI a11, vI a12, vI a13, vI a14, vI a15, vI a16, vI a17, vI a18, vI a19, vI a20, vI a21, vI a22, vI a23]), (1, AO.box [vI 0, vI 0, vI 0, vI 0, vI 0, vI 0, vI 0, vI 0, vI 0, vI 0, vI 0, vI 0, vI 0, vI 0, vI 0, vI 0, vI 0, vI 0, vI 0, vI 0, vI 0, vI 0, vI 0, vI 0]), (2, AO.box [vI a0, vI a1, vI a2, vI a3, vI a4, vI a5, vI a6, vI a7, vI a8, vI a9, vI a10, vI a11, vI a12, vI a13, vI a14, vI a15, vI a16, vI a17, vI a18, vI a19, vI a20, vI a21, vI a22, vI a23])], nx := 1000000, ps := [] }) := by kernel_rfl
theorem b21_8 (L : Lp) (R : Option Res → Prop) (N : St → Prop) (a0 : Int) (a1 : Int) (a2 : Int) (a3 : Int) (a4 : Int) (a5 : Int) (a6 : Int) (a7 : Int) (a8 : Int) (a9 : Int) (a10 : Int) (a11 : Int) (a12 : Int) (a13 : Int) (a14 : Int) (a15 : Int) (a16 : Int) (a17 : Int) (a18 : Int) (a19 : Int) (a20 : Int) (a21 : Int) (a22 : Int) (a23 : Int) : (evP E21 G21 L (lp21 3) (st21 a0 a1 a2 a3 a4 a5 a6 a7 a8 a9 a10 a11 a12 a13 a14 a15 a16 a17 a18 a19 a20 a21 a22 a23 8 a0 a1 a2 a3 a4 a5 a6 a7 a8 a9 a10 a11 a12 a13 a14 a15 a16 a17 a18 a19 a20 a21 a22 a23) (rk21 L R 3 N)) = (
    R (some { av := AV.agg [vI a0, vI a1, vI a2, vI a3, vI a4, vI a5, vI a6, vI a7, vI a8, vI a9, vI a10, vI a11, vI a12, vI a13, vI a14, vI a15, vI a16, vI a17, vI a18, vI a19, vI a20, vI a21, vI a22, vI a23], obs := [], outs := [] })) := by kernel_rfl
def sq21 (a0 : Int) (a1 : Int) (a2 : Int) (a3 : Int) (a4 : Int) (a5 : Int) (a6 : Int) (a7 : Int) (a8 : Int) (a9 : Int) (a10 : Int) (a11 : Int) (a12 : Int) (a13 : Int) (a14 : Int) (a15 : Int) (a16 : Int) (a17 : Int) (a18 : Int) (a19 : Int) (a20 : Int) (a21 : Int) (a22 : Int) (a23 : Int) : Nat → St
  | 0 => st21 a0 a1 a2 a3 a4 a5 a6 a7 a8 a9 a10 a11 a12 a13 a14 a15 a16 a17 a18 a19 a20 a21 a22 a23 0 0 0 0 0 0 0 0 0 0 0 0 0 0 0 0 0 0 0 0 0 0 0 0 0
  | 1 => st21 a0 a1 a2 a3 a4 a5 a6 a7 a8 a9 a10 a11 a12 a13 a14 a15 a16 a17 a18 a19 a20 a21 a22 a23 1 a0 a1 a2 0 0 0 0 0 0 0 0 0 0 0 0 0 0 0 0 0 0 0 0 0
  | 2 => st21 a0 a1 a2 a3 a4 a5 a6 a7 a8 a9 a10 a11 a12 a13 a14 a15 a16 a17 a18 a19 a20 a21 a22 a23 2 a0 a1 a2 a3 a4 a5 0 0 0 0 0 0 0 0 0 0 0 0 0 0 0 0 0 0
  | 3 => st21 a0 a1 a2 a3 a4 a5 a6 a7 a8 a9 a10 a11 a12 a13 a14 a15 a16 a17 a18 a19 a20 a21 a22 a23 3 a0 a1 a2 a3 a4 a5 a6 a7 a8 0 0 0 0 0 0 0 0 0 0 0 0 0 0 0
  | 4 => st21 a0 a1 a2 a3 a4 a5 a6 a7 a8 a9 a10 a11 a12 a13 a14 a15 a16 a17 a18 a19 a20 a21 a22 a23 4 a0 a1 a2 a3 a4 a5 a6 a7 a8 a9 a10 a11 0 0 0 0 0 0 0 0 0 0 0 0
  | 5 => st21 a0 a1 a2 a3 a4 a5 a6 a7 a8 a9 a10 a11 a12 a13 a14 a15 a16 a17 a18 a19 a20 a21 a22 a23 5 a0 a1 a2 a3 a4 a5 a6 a7 a8 a9 a10 a11 a12 a13 a14 0 0 0 0 0 0 0 0 0
  | 6 => st21 a0 a1 a2 a3 a4 a5 a6 a7 a8 a9 a10 a11 a12 a13 a14 a15 a16 a17 a18 a19 a20 a21 a22 a23 6 a0 a1 a2 a3 a4 a5 a6 a7 a8 a9 a10 a11 a12 a13 a14 a15 a16 a17 0 0 0 0 0 0
  | 7 => st21 a0 a1 a2 a3 a4 a5 a6 a7 a8 a9 a10 a11 a12 a13 a14 a15 a16 a17 a18 a19 a20 a21 a22 a23 7 a0 a1 a2 a3 a4 a5 a6 a7 a8 a9 a10 a11 a12 a13 a14 a15 a16 a17 a18 a19 a20 0 0 0
  | _ => st21 a0 a1 a2 a3 a4 a5 a6 a7 a8 a9 a10 a11 a12 a13 a14 a15 a16 a17 a18 a19 a20 a21 a22 a23 8 a0 a1 a2 a3 a4 a5 a6 a7 a8 a9 a10 a11 a12 a13 a14 a15 a16 a17 a18 a19 a20 a21 a22 a23
theorem h21 : G1Ok Tryd.prog 21 g21 := by
  intro args obs k h
  unfold g21 at h
  split at h
  · rename_i k us
    split at h
    rotate_left
    · exact h.elim
    rename_i a ha
    obtain rfl := elemOf_inv ha
    obtain ⟨a0, a1, a2, a3, a4, a5, a6, a7, a8, a9, a10, a11, a12, a13, a14, a15, a16, a17, a18, a19, a20, a21, a22, a23, ⟨⟩⟩ := a
    refine ⟨_, ctr_fn ok0 hg21 Tryd.func21 (by kernel_rfl) (by kernel_rfl) (by kernel_rfl) fun C => ?_, h⟩
    show bodyP E0 G21 _ Tryd.f21 [.agg [.val (.int .i64 a0), .val (.int .i64 a1), .val (.int .i64 a2), .val (.int .i64 a3), .val (.int .i64 a4), .val (.int .i64 a5), .val (.int .i64 a6), .val (.int .i64 a7), .val (.int .i64 a8), .val (.int .i64 a9), .val (.int .i64 a10), .val (.int .i64 a11), .val (.int .i64 a12), .val (.int .i64 a13), .val (.int .i64 a14), .val (.int .i64 a15), .val (.int .i64 a16), .val (.int .i64 a17), .val (.int .i64 a18), .val (.int .i64 a19), .val (.int .i64 a20), .val (.int .i64 a21), .val (.int .i64 a22), .val (.int .i64 a23)]] [] _
    rw [e21]
    refine loopSeq okf21 hg21 (sq21 a0 a1 a2 a3 a4 a5 a6 a7 a8 a9 a10 a11 a12 a13 a14 a15 a16 a17 a18 a19 a20 a21 a22 a23) 8 (fun N i hi next => ?_) (fun N => ?_)
    · have cs : i = 0 ∨ i = 1 ∨ i = 2 ∨ i = 3 ∨ i = 4 ∨ i = 5 ∨ i = 6 ∨ i = 7 := by omega
      rcases cs with rfl | rfl | rfl | rfl | rfl | rfl | rfl | rfl
      · show evP E21 G21 _ (lp21 3) (st21 a0 a1 a2 a3 a4 a5 a6 a7 a8 a9 a10 a11 a12 a13 a14 a15 a16 a17 a18 a19 a20 a21 a22 a23 0 0 0 0 0 0 0 0 0 0 0 0 0 0 0 0 0 0 0 0 0 0 0 0 0) (rk21 _ _ 3 _)
        rw [b21_0]
        exact next
      · show evP E21 G21 _ (lp21 3) (st21 a0 a1 a2 a3 a4 a5 a6 a7 a8 a9 a10 a11 a12 a13 a14 a15 a16 a17 a18 a19 a20 a21 a22 a23 1 a0 a1 a2 0 0 0 0 0 0 0 0 0 0 0 0 0 0 0 0 0 0 0 0 0) (rk21 _ _ 3 _)
        rw [b21_1]
        exact next
      · show evP E21 G21 _ (lp21 3) (st21 a0 a1 a2 a3 a4 a5 a6 a7 a8 a9 a10 a11 a12 a13 a14 a15 a16 a17 a18 a19 a20 a21 a22 a23 2 a0 a1 a2 a3 a4 a5 0 0 0 0 0 0 0 0 0 0 0 0 0 0 0 0 0 0) (rk21 _ _ 3 _)
        rw [b21_2]
        exact next
      · show evP E21 G21 _ (lp21 3) (st21 a0 a1 a2 a3 a4 a5 a6 a7 a8 a9 a10 a11 a12 a13 a14 a15 a16 a17 a18 a19 a20 a21 a22 a23 3 a0 a1 a2 a3 a4 a5 a6 a7 a8 0 0 0 0 0 0 0 0 0 0 0 0 0 0 0) (rk21 _ _ 3 _)
        rw [b21_3]
        exact next
      · show evP E21 G21 _ (lp21 3) (st21 a0 a1 a2 a3 a4 a5 a6 a7 a8 a9 a10 a11 a12 a13 a14 a15 a16 a17 a18 a19 a20 a21 a22 a23 4 a0 a1 a2 a3 a4 a5 a6 a7 a8 a9 a10 a11 0 0 0 0 0 0 0 0 0 0 0 0) (rk21 _ _ 3 _)
        rw [b21_4]
        exact next
      · show evP E21 G21 _ (lp21 3) (st21 a0 a1 a2 a3 a4 a5 a6 a7 a8 a9 a10 a11 a12 a13 a14 a15 a16 a17 a18 a19 a20 a21 a22 a23 5 a0 a1 a2 a3 a4 a5 a6 a7 a8 a9 a10 a11 a12 a13 a14 0 0 0 0 0 0 0 0 0) (rk21 _ _ 3 _)
        rw [b21_5]
        exact next
      · show evP E21 G21 _ (lp21 3) (st21 a0 a1 a2 a3 a4 a5 a6 a7 a8 a9 a10 a11 a12 a13 a14 a15 a16 a17 a18 a19 a20 a21 a22 a23 6 a0 a1 a2 a3 a4 a5 a6 a7 a8 a9 a10 a11 a12 a13 a14 a15 a16 a17 0 0 0 0 0 0) (rk21 _ _ 3 _)
        rw [b21_6]
        exact next
      · show evP E21 G21 _ (lp21 3) (st21 a0 a1 a2 a3 a4 a5 a6 a7 a8 a9 a10 a11 a12 a13 a14 a15 a16 a17 a18 a19 a20 a21 a22 a23 7 a0 a1 a2 a3 a4 a5 a6 a7 a8 a9 a10 a11 a12 a13 a14 a15 a16 a17 a18 a19 a20 0 0 0) (rk21 _ _ 3 _)
        rw [b21_7]
        exact next
    · show evP E21 G21 _ (lp21 3) (st21 a0 a1 a2 a3 a4 a5 a6 a7 a8 a9 a10 a11 a12 a13 a14 a15 a16 a17 a18 a19 a20 a21 a22 a23 8 a0 a1 a2 a3 a4 a5 a6 a7 a8 a9 a10 a11 a12 a13 a14 a15 a16 a17 a18 a19 a20 a21 a22 a23) (rk21 _ _ 3 _)
      rw [b21_8]
      rfl
  · exact h.elim
abbrev k24 : List CK := [.int .i64, .int .i64, .int .i64, .int .i64, .int .i64, .int .i64, .int .i64, .int .i64, .int .i64, .int .i64, .int .i64, .int .i64, .int .i64, .int .i64, .int .i64, .int .i64, .int .i64, .int .i64, .int .i64, .int .i64, .int .i64, .int .i64, .int .i64, .int .i64]
def ps8 (a : Elem k24) : List (Elem k3) := [(a.1, a.2.1, a.2.2.1, ()), (a.2.2.2.1, a.2.2.2.2.1, a.2.2.2.2.2.1, ()), (a.2.2.2.2.2.2.1, a.2.2.2.2.2.2.2.1, a.2.2.2.2.2.2.2.2.1, ()), (a.2.2.2.2.2.2.2.2.2.1, a.2.2.2.2.2.2.2.2.2.2.1, a.2.2.2.2.2.2.2.2.2.2.2.1, ()), (a.2.2.2.2.2.2.2.2.2.2.2.2.1, a.2.2.2.2.2.2.2.2.2.2.2.2.2.1, a.2.2.2.2.2.2.2.2.2.2.2.2.2.2.1, ()), (a.2.2.2.2.2.2.2.2.2.2.2.2.2.2.2.1, a.2.2.2.2.2.2.2.2.2.2.2.2.2.2.2.2.1, a.2.2.2.2.2.2.2.2.2.2.2.2.2.2.2.2.2.1, ()), (a.2.2.2.2.2.2.2.2.2.2.2.2.2.2.2.2.2.2.1, a.2.2.2.2.2.2.2.2.2.2.2.2.2.2.2.2.2.2.2.1, a.2.2.2.2.2.2.2.2.2.2.2.2.2.2.2.2.2.2.2.2.1, ()), (a.2.2.2.2.2.2.2.2.2.2.2.2.2.2.2.2.2.2.2.2.2.1, a.2.2.2.2.2.2.2.2.2.2.2.2.2.2.2.2.2.2.2.2.2.2.1, a.2.2.2.2.2.2.2.2.2.2.2.2.2.2.2.2.2.2.2.2.2.2.2.1, ())]
def pOk (e : Elem k3) : Bool := ptrOk e.1 e.2.1 e.2.2.1
def pT (e : Elem k3) : ByteArray := ptrT e.1 e.2.1 e.2.2.1
def pTs (ps : List (Elem k3)) : List (Elem ks) := ps.map fun e => (pT e, ())
def mapT (ps : List (Elem k3)) : ByteArray := match allB 8 fun j => pOk (ps.getD j (edflt k3)) with
  | true => joinT (pTs ps) ⟨#[32]⟩
  | false => ByteArray.empty
def g20 : G1
  | [.agg us], [], k => match elemOf k24 us with
    | some a => k ⟨.val (.string (mapT (ps8 a))), [], []⟩
    | none => False
  | _, _, _ => False
theorem pTs_next (ps : List (Elem k3)) {i : Nat} (hi : i < ps.length) : (pTs ps).take (i + 1) = (pTs ps).take i ++ [(pT (ps.getD i (edflt k3)), ())] := by
  have hx : (pTs ps)[i]? = some (pT (ps.getD i (edflt k3)), ()) := by
    unfold pTs
    rw [List.getElem?_map, List.getD_eq_getElem?_getD, List.getElem?_eq_getElem hi]
    rfl
  rw [List.take_add_one, hx]
  rfl
theorem take_ne (ps : List (Elem k3)) {i : Nat} (hi : i < ps.length) (h0 : 0 < i) : (pTs ps).take i ≠ [] := by
  intro e
  have := congrArg List.length e
  rw [List.length_take, List.length_nil] at this
  have hl : (pTs ps).length = ps.length := by simp [pTs]
  omega
noncomputable def E20 : Env := E0.of Tryd.f20
noncomputable def G20 : Gk := gk [(49, g50), (17, g17)]
noncomputable def lp20 (n : Nat) : Code := (loopOf n (codeOf Tryd.f20)).getD .skip
noncomputable def ct20 (L : Lp) (R : Option Res → Prop) (n : Nat) : Kt := contOf E20 G20 L n (codeOf Tryd.f20) (endK E20 Tryd.f20.results.toList R)
noncomputable def rk20 (L : Lp) (R : Option Res → Prop) (n : Nat) (N : St → Prop) : Kt := rk (jof E20 (lp20 n)) N (ct20 L R n)
noncomputable def LOOP20 (L : Lp) (R : Option Res → Prop) (n : Nat) (st : St) : Prop := L (lp20 n) st (ct20 L R n)
theorem hg20 : HG Tryd.prog G20 := (hg_cons h49 (hg_cons h17 hg_nil))
theorem okf20 : Ok Tryd.prog E20 := ok0.of Tryd.f20
theorem e20 (L : Lp) (R : Option Res → Prop) (a0 a1 a2 a3 a4 a5 a6 a7 a8 a9 a10 a11 a12 a13 a14 a15 a16 a17 a18 a19 a20 a21 a22 a23 : Int) : (bodyP E0 G20 L Tryd.f20 [.agg [.val (.int .i64 a0), .val (.int .i64 a1), .val (.int .i64 a2), .val (.int .i64 a3), .val (.int .i64 a4), .val (.int .i64 a5), .val (.int .i64 a6), .val (.int .i64 a7), .val (.int .i64 a8), .val (.int .i64 a9), .val (.int .i64 a10), .val (.int .i64 a11), .val (.int .i64 a12), .val (.int .i64 a13), .val (.int .i64 a14), .val (.int .i64 a15), .val (.int .i64 a16), .val (.int .i64 a17), .val (.int .i64 a18), .val (.int .i64 a19), .val (.int .i64 a20), .val (.int .i64 a21), .val (.int .i64 a22), .val (.int .i64 a23)]] [] R) = (
    LOOP20 L R 3 { tm := [AV.agg [vI a0, vI a1, vI a2, vI a3, vI a4, vI a5, vI a6, vI a7, vI a8, vI a9, vI a10, vI a11, vI a12, vI a13, vI a14, vI a15, vI a16, vI a17, vI a18, vI a19, vI a20, vI a21, vI a22, vI a23], AV.ptr 0 0, vS { data := #[] }, vS { data := #[] }, vI 0, vJ, vJ, vJ, vJ, vJ, vJ, vJ, vJ, vJ, vJ, vJ, vJ, vJ, vJ, vJ, vJ, vJ, vJ, vJ, vU], ob := [(0, AO.box [vI a0, vI a1, vI a2, vI a3, vI a4, vI a5, vI a6, vI a7, vI a8, vI a9, vI a10, vI a11, vI a12, vI a13, vI a14, vI a15, vI a16, vI a17, vI a18, vI a19, vI a20, vI a21, vI a22, vI a23])], nx := 1000000, ps := [] }) := by kernel_rfl
def st20 (a0 a1 a2 a3 a4 a5 a6 a7 a8 a9 a10 a11 a12 a13 a14 a15 a16 a17 a18 a19 a20 a21 a22 a23 : Int) (o : ByteArray) (i : Int) : St :=  ⟨[AV.agg [vI a0, vI a1, vI a2, vI a3, vI a4, vI a5, vI a6, vI a7, vI a8, vI a9, vI a10, vI a11, vI a12, vI a13, vI a14, vI a15, vI a16, vI a17, vI a18, vI a19, vI a20, vI a21, vI a22, vI a23], AV.ptr 0 0, vS { data := #[] }, .val (.string o), .val (.int .i64 i), vJ, vJ, vJ, vJ, vJ, vJ, vJ, vJ, vJ, vJ, vJ, vJ, vJ, vJ, vJ, vJ, vJ, vJ, vJ, vU], [(0, AO.box [vI a0, vI a1, vI a2, vI a3, vI a4, vI a5, vI a6, vI a7, vI a8, vI a9, vI a10, vI a11, vI a12, vI a13, vI a14, vI a15, vI a16, vI a17, vI a18, vI a19, vI a20, vI a21, vI a22, vI a23])], 1000000, []⟩
theorem b20_0 (L : Lp) (R : Option Res → Prop) (N : St → Prop) (a0 a1 a2 a3 a4 a5 a6 a7 a8 a9 a10 a11 a12 a13 a14 a15 a16 a17 a18 a19 a20 a21 a22 a23 : Int) (o : ByteArray) : (evP E20 G20 L (lp20 3) (st20 a0 a1 a2 a3 a4 a5 a6 a7 a8 a9 a10 a11 a12 a13 a14 a15 a16 a17 a18 a19 a20 a21 a22 a23 o 0) (rk20 L R 3 N)) = (
    br (!ptrOk a0 a1 a2) (R (some { av := vS { data := #[] }, obs := [], outs := [] })) (br (decide (o.size + (ptrT a0 a1 a2).size ≤ 9223372036854775807)) (N { tm := [AV.agg [vI a0, vI a1, vI a2, vI a3, vI a4, vI a5, vI a6, vI a7, vI a8, vI a9, vI a10, vI a11, vI a12, vI a13, vI a14, vI a15, vI a16, vI a17, vI a18, vI a19, vI a20, vI a21, vI a22, vI a23], AV.ptr 0 0, vS { data := #[] }, vS (o ++ ptrT a0 a1 a2), vI 1, vJ, vJ, vJ, vJ, vJ, vJ, vJ, vJ, vJ, vJ, vJ, vJ, vJ, vJ, vJ, vJ, vJ, vJ, vJ, vU], ob := [(0, AO.box [vI a0, vI a1, vI a2, vI a3, vI a4, vI a5, vI a6, vI a7, vI a8, vI a9, vI a10, vI a11, vI a12, vI a13, vI a14, vI a15, vI a16, vI a17, vI a18, vI a19, vI a20, vI a21, vI a22, vI a23])], nx := 1000000, ps := [] }) False)) := by kernel_rfl
theorem b20_1 (L : Lp) (R : Option Res → Prop) (N : St → Prop) (a0 a1 a2 a3 a4 a5 a6 a7 a8 a9 a10 a11 a12 a13 a14 a15 a16 a17 a18 a19 a20 a21 a22 a23 : Int) (o : ByteArray) : (evP E20 G20 L (lp20 3) (st20 a0 a1 a2 a3 a4 a5 a6 a7 a8 a9 a10 a11 a12 a13 a14 a15 a16 a17 a18 a19 a20 a21 a22 a23 o 1) (rk20 L R 3 N)) = (
    br (!ptrOk a3 a4 a5) (R (some { av := vS { data := #[] }, obs := [], outs := [] })) (br (decide (o.size + 1 ≤ 9223372036854775807)) (br (decide ((o ++ { data := #[32] }).size + (ptrT a3 a4 a5).size ≤ 9223372036854775807)) (N { tm := [AV.agg [vI a0, vI a1, vI a2, vI a3, vI a4, vI a5, vI a6, vI a7, vI a8, vI a9, vI a10, vI a11, vI a12, vI a13, vI a14, vI a15, vI a16, vI a17, vI a18, vI a19, vI a20, vI a21, vI a22, vI a23], AV.ptr 0 0, vS { data := #[] }, vS (o ++ { data := #[32] } ++ ptrT a3 a4 a5), vI 2, vJ, vJ, vJ, vJ, vJ, vJ, vJ, vJ, vJ, vJ, vJ, vJ, vJ, vJ, vJ, vJ, vJ, vJ, vJ, vU], ob := [(0, AO.box [vI a0, vI a1, vI a2, vI a3, vI a4, vI a5, vI a6, vI a7, vI a8, vI a9, vI a10, vI a11, vI a12, vI a13, vI a14, vI a15, vI a16, vI a17, vI a18, vI a19, vI a20, vI a21, vI a22, vI a23])], nx := 1000000, ps := [] }) False) False)) := by kernel_rfl
theorem b20_2 (L : Lp) (R : Option Res → Prop) (N : St → Prop) (a0 a1 a2 a3 a4 a5 a6 a7 a8 a9 a10 a11 a12 a13 a14 a15 a16 a17 a18 a19 a20 a21 a22 a23 : Int) (o : ByteArray) : (evP E20 G20 L (lp20 3) (st20 a0 a1 a2 a3 a4 a5 a6 a7 a8 a9 a10 a11 a12 a13 a14 a15 a16 a17 a18 a19 a20 a21 a22 a23 o 2) (rk20 L R 3 N)) = (
    br (!ptrOk a6 a7 a8) (R (some { av := vS { data := #[] }, obs := [], outs := [] })) (br (decide (o.size + 1 ≤ 9223372036854775807)) (br (decide ((o ++ { data := #[32] }).size + (ptrT a6 a7 a8).size ≤ 9223372036854775807)) (N { tm := [AV.agg [vI a0, vI a1, vI a2, vI a3, vI a4, vI a5, vI a6, vI a7, vI a8, vI a9, vI a10, vI a11, vI a12, vI a13, vI a14, vI a15, vI a16, vI a17, vI a18, vI a19, vI a20, vI a21, vI a22, vI a23], AV.ptr 0 0, vS { data := #[] }, vS (o ++ { data := #[32] } ++ ptrT a6 a7 a8), vI 3, vJ, vJ, vJ, vJ, vJ, vJ, vJ, vJ, vJ, vJ, vJ, vJ, vJ, vJ, vJ, vJ, vJ, vJ, vJ, vU], ob := [(0, AO.box [vI a0, vI a1, vI a2, vI a3, vI a4, vI a5, vI a6, vI a7, vI a8, vI a9, vI a10, vI a11, vI a12, vI a13, vI a14, vI a15, vI a16, vI a17, vI a18, vI a19, vI a20, vI a21, vI a22, vI a23])], nx := 1000000, ps := [] }) False) False)) := by kernel_rfl
theorem b20_3 (L : Lp) (R : Option Res → Prop) (N : St → Prop) (a0 a1 a2 a3 a4 a5 a6 a7 a8 a9 a10 a11 a12 a13 a14 a15 a16 a17 a18 a19 a20 a21 a22 a23 : Int) (o : ByteArray) : (evP E20 G20 L (lp20 3) (st20 a0 a1 a2 a3 a4 a5 a6 a7 a8 a9 a10 a11 a12 a13 a14 a15 a16 a17 a18 a19 a20 a21 a22 a23 o 3) (rk20 L R 3 N)) = (
    br (!ptrOk a9 a10 a11) (R (some { av := vS { data := #[] }, obs := [], outs := [] })) (br (decide (o.size + 1 ≤ 9223372036854775807)) (br (decide ((o ++ { data := #[32] }).size + (ptrT a9 a10 a11).size ≤ 9223372036854775807)) (N { tm := [AV.agg [vI a0, vI a1, vI a2, vI a3, vI a4, vI a5, vI a6, vI a7, vI a8, vI a9, vI a10, vI a11, vI a12, vI a13, vI a14, vI a15, vI a16, vI a17, vI a18, vI a19, vI a20, vI a21, vI a22, vI a23], AV.ptr 0 0, vS { data := #[] }, vS (o ++ { data := #[32] } ++ ptrT a9 a10 a11), vI 4, vJ, vJ, vJ, vJ, vJ, vJ, vJ, vJ, vJ, vJ, vJ, vJ, vJ, vJ, vJ, vJ, vJ, vJ, vJ, vU], ob := [(0, AO.box [vI a0, vI a1, vI a2, vI a3, vI a4, vI a5, vI a6, vI a7, vI a8, vI a9, vI a10, vI a11, vI a12, vI a13, vI a14, vI a15, vI a16, vI a17, vI a18, vI a19, vI a20, vI a21, vI a22, vI a23])], nx := 1000000, ps := [] }) False) False)) := by kernel_rfl
theorem b20_4 (L : Lp) (R : Option Res → Prop) (N : St → Prop) (a0 a1 a2 a3 a4 a5 a6 a7 a8 a9 a10 a11 a12 a13 a14 a15 a16 a17 a18 a19 a20 a21 a22 a23 : Int) (o : ByteArray) : (evP E20 G20 L (lp20 3) (st20 a0 a1 a2 a3 a4 a5 a6 a7 a8 a9 a10 a11 a12 a13 a14 a15 a16 a17 a18 a19 a20 a21 a22 a23 o 4) (rk20 L R 3 N)) = (
    br (!ptrOk a12 a13 a14) (R (some { av := vS { data := #[] }, obs := [], outs := [] })) (br (decide (o.size + 1 ≤ 9223372036854775807)) (br (decide ((o ++ { data := #[32] }).size + (ptrT a12 a13 a14).size ≤ 9223372036854775807)) (N { tm := [AV.agg [vI a0, vI a1, vI a2, vI a3, vI a4, vI a5, vI a6, vI a7, vI a8, vI a9, vI a10, vI a11, vI a12, vI a13, vI a14, vI a15, vI a16, vI a17, vI a18, vI a19, vI a20, vI a21, vI a22, vI a23], AV.ptr 0 0, vS { data := #[] }, vS (o ++ { data := #[32] } ++ ptrT a12 a13 a14), vI 5, vJ, vJ, vJ, vJ, vJ, vJ, vJ, vJ, vJ, vJ, vJ, vJ, vJ, vJ, vJ, vJ, vJ, vJ, vJ, vU], ob := [(0, AO.box [vI a0, vI a1, vI a2, vI a3, vI a4, vI a5, vI a6, vI a7, vI a8, vI a9, vI a10, vI a11, vI a12, vI a13, vI a14, vI a15, vI a16, vI a17, vI a18, vI a19, vI a20, vI a21, vI a22, vI a23])], nx := 1000000, ps := [] }) False) False)) := by kernel_rfl
theorem b20_5 (L : Lp) (R : Option Res → Prop) (N : St → Prop) (a0 a1 a2 a3 a4 a5 a6 a7 a8 a9 a10 a11 a12 a13 a14 a15 a16 a17 a18 a19 a20 a21 a22 a23 : Int) (o : ByteArray) : (evP E20 G20 L (lp20 3) (st20 a0 a1 a2 a3 a4 a5 a6 a7 a8 a9 a10 a11 a12 a13 a14 a15 a16 a17 a18 a19 a20 a21 a22 a23 o 5) (rk20 L R 3 N)) = (
    br (!ptrOk a15 a16 a17) (R (some { av := vS { data := #[] }, obs := [], outs := [] })) (br (decide (o.size + 1 ≤ 9223372036854775807)) (br (decide ((o ++ { data := #[32] }).size + (ptrT a15 a16 a17).size ≤ 9223372036854775807)) (N { tm := [AV.agg [vI a0, vI a1, vI a2, vI a3, vI a4, vI a5, vI a6, vI a7, vI a8, vI a9, vI a10, vI a11, vI a12, vI a13, vI a14, vI a15, vI a16, vI a17, vI a18, vI a19, vI a20, vI a21, vI a22, vI a23], AV.ptr 0 0, vS { data := #[] }, vS (o ++ { data := #[32] } ++ ptrT a15 a16 a17), vI 6, vJ, vJ, vJ, vJ, vJ, vJ, vJ, vJ, vJ, vJ, vJ, vJ, vJ, vJ, vJ, vJ, vJ, vJ, vJ, vU], ob := [(0, AO.box [vI a0, vI a1, vI a2, vI a3, vI a4, vI a5, vI a6, vI a7, vI a8, vI a9, vI a10, vI a11, vI a12, vI a13, vI a14, vI a15, vI a16, vI a17, vI a18, vI a19, vI a20, vI a21, vI a22, vI a23])], nx := 1000000, ps := [] }) False) False)) := by kernel_rfl
theorem b20_6 (L : Lp) (R : Option Res → Prop) (N : St → Prop) (a0 a1 a2 a3 a4 a5 a6 a7 a8 a9 a10 a11 a12 a13 a14 a15 a16 a17 a18 a19 a20 a21 a22 a23 : Int) (o : ByteArray) : (evP E20 G20 L (lp20 3) (st20 a0 a1 a2 a3 a4 a5 a6 a7 a8 a9 a10 a11 a12 a13 a14 a15 a16 a17 a18 a19 a20 a21 a22 a23 o 6) (rk20 L R 3 N)) = (
    br (!ptrOk a18 a19 a20) (R (some { av := vS { data := #[] }, obs := [], outs := [] })) (br (decide (o.size + 1 ≤ 9223372036854775807)) (br (decide ((o ++ { data := #[32] }).size + (ptrT a18 a19 a20).size ≤ 9223372036854775807)) (N { tm := [AV.agg [vI a0, vI a1, vI a2, vI a3, vI a4, vI a5, vI a6, vI a7, vI a8, vI a9, vI a10, vI a11, vI a12, vI a13, vI a14, vI a15, vI a16, vI a17, vI a18, vI a19, vI a20, vI a21, vI a22, vI a23], AV.ptr 0 0, vS { data := #[] }, vS (o ++ { data := #[32] } ++ ptrT a18 a19 a20), vI 7, vJ, vJ, vJ, vJ, vJ, vJ, vJ, vJ, vJ, vJ, vJ, vJ, vJ, vJ, vJ, vJ, vJ, vJ, vJ, vU], ob := [(0, AO.box [vI a0, vI a1, vI a2, vI a3, vI a4, vI a5, vI a6, vI a7, vI a8, vI a9, vI a10, vI a11, vI a12, vI a13, vI a14, vI a15, vI a16, vI a17, vI a18, vI a19, vI a20, vI a21, vI a22, vI a23])], nx := 1000000, ps := [] }) False) False)) := by kernel_rfl
theorem b20_7 (L : Lp) (R : Option Res → Prop) (N : St → Prop) (a0 a1 a2 a3 a4 a5 a6 a7 a8 a9 a10 a11 a12 a13 a14 a15 a16 a17 a18 a19 a20 a21 a22 a23 : Int) (o : ByteArray) : (evP E20 G20 L (lp20 3) (st20 a0 a1 a2 a3 a4 a5 a6 a7 a8 a9 a10 a11 a12 a13 a14 a15 a16 a17 a18 a19 a20 a21 a22 a23 o 7) (rk20 L R 3 N)) = (
    br (!ptrOk a21 a22 a23) (R (some { av := vS { data := #[] }, obs := [], outs := [] })) (br (decide (o.size + 1 ≤ 9223372036854775807)) (br (decide ((o ++ { data := #[32] }).size + (ptrT a21 a22 a23).size ≤ 9223372036854775807)) (N { tm := [AV.agg [vI a0, vI a1, vI a2, vI a3, vI a4, vI a5, vI a6, vI a7, vI a8, vI a9, vI a10, vI a11, vI a12, vI a13, vI a14, vI a15, vI a16, vI a17, vI a18, vI a19, vI a20, vI a21, vI a22, vI a23], AV.ptr 0 0, vS { data := #[] }, vS (o ++ { data := #[32] } ++ ptrT a21 a22 a23), vI 8, vJ, vJ, vJ, vJ, vJ, vJ, vJ, vJ, vJ, vJ, vJ, vJ, vJ, vJ, vJ, vJ, vJ, vJ, vJ, vU], ob := [(0, AO.box [vI a0, vI a1, vI a2, vI a3, vI a4, vI a5, vI a6, vI a7, vI a8, vI a9, vI a10, vI a11, vI a12, vI a13, vI a14, vI a15, vI a16, vI a17, vI a18, vI a19, vI a20, vI a21, vI a22, vI a23])], nx := 1000000, ps := [] }) False) False)) := by kernel_rfl
theorem b20_8 (L : Lp) (R : Option Res → Prop) (N : St → Prop) (a0 a1 a2 a3 a4 a5 a6 a7 a8 a9 a10 a11 a12 a13 a14 a15 a16 a17 a18 a19 a20 a21 a22 a23 : Int) (o : ByteArray) : (evP E20 G20 L (lp20 3) (st20 a0 a1 a2 a3 a4 a5 a6 a7 a8 a9 a10 a11 a12 a13 a14 a15 a16 a17 a18 a19 a20 a21 a22 a23 o 8) (rk20 L R 3 N)) = (
    R (some { av := vS o, obs := [], outs := [] })) := by kernel_rfl
theorem h20 : G1Ok Tryd.prog 20 g20 := by
  intro args obs k h
  unfold g20 at h
  split at h
  · rename_i k us
    split at h
    rotate_left
    · exact h.elim
    rename_i a ha
    obtain rfl := elemOf_inv ha
    obtain ⟨a0, a1, a2, a3, a4, a5, a6, a7, a8, a9, a10, a11, a12, a13, a14, a15, a16, a17, a18, a19, a20, a21, a22, a23, ⟨⟩⟩ := a
    refine ⟨_, ctr_fn ok0 hg20 Tryd.func20 (by kernel_rfl) (by kernel_rfl) (by kernel_rfl) fun C => ?_, h⟩
    show bodyP E0 G20 _ Tryd.f20 [.agg [.val (.int .i64 a0), .val (.int .i64 a1), .val (.int .i64 a2), .val (.int .i64 a3), .val (.int .i64 a4), .val (.int .i64 a5), .val (.int .i64 a6), .val (.int .i64 a7), .val (.int .i64 a8), .val (.int .i64 a9), .val (.int .i64 a10), .val (.int .i64 a11), .val (.int .i64 a12), .val (.int .i64 a13), .val (.int .i64 a14), .val (.int .i64 a15), .val (.int .i64 a16), .val (.int .i64 a17), .val (.int .i64 a18), .val (.int .i64 a19), .val (.int .i64 a20), .val (.int .i64 a21), .val (.int .i64 a22), .val (.int .i64 a23)]] [] _
    rw [e20]
    generalize hps : ps8 (a0, a1, a2, a3, a4, a5, a6, a7, a8, a9, a10, a11, a12, a13, a14, a15, a16, a17, a18, a19, a20, a21, a22, a23, ()) = ps
    have hlen : ps.length = 8 := by rw [← hps]; rfl
    have e32 : (⟨#[32]⟩ : ByteArray).size = 1 := rfl
    refine loopUp okf20 hg20 (fun i o => st20 a0 a1 a2 a3 a4 a5 a6 a7 a8 a9 a10 a11 a12 a13 a14 a15 a16 a17 a18 a19 a20 a21 a22 a23 o i) 8 (fun i o => o = joinT ((pTs ps).take i) ⟨#[32]⟩ ∧ o.size ≤ 2000000 * i ∧ ∀ j, j < i → pOk (ps.getD j (edflt k3)) = true) (fun N i o hi ⟨ho, hs, hall⟩ next => ?_) ⟨#[]⟩ ⟨rfl, Nat.le_refl _, fun j hj => by omega⟩
    have fails : ∀ {j}, j < 8 → pOk (ps.getD j (edflt k3)) = false → (some ⟨.val (.string ⟨#[]⟩), [], []⟩ : Option Res) = some ⟨.val (.string (mapT ps)), [], []⟩ := by
      intro j hj hf
      unfold mapT
      rw [show (allB 8 fun j => pOk (ps.getD j (edflt k3))) = false from allB_f hj hf]
      rfl
    have cs : i = 0 ∨ i = 1 ∨ i = 2 ∨ i = 3 ∨ i = 4 ∨ i = 5 ∨ i = 6 ∨ i = 7 ∨ i = 8 := by omega
    rcases cs with rfl | rfl | rfl | rfl | rfl | rfl | rfl | rfl | rfl
    · show evP E20 G20 _ (lp20 3) (st20 a0 a1 a2 a3 a4 a5 a6 a7 a8 a9 a10 a11 a12 a13 a14 a15 a16 a17 a18 a19 a20 a21 a22 a23 o 0) (rk20 _ _ 3 _)
      rw [b20_0]
      have hp : ps.getD 0 (edflt k3) = (a0, a1, a2, ()) := by rw [← hps]; rfl
      have hsz := ptrT_size a0 a1 a2
      refine br_not (fun h1 => ?_) (fun h1 => ?_)
      · exact fails (j := 0) (by omega) (by rw [hp]; exact h1)
      · have hnx := pTs_next ps (i := 0) (by omega)
        rw [hp] at hnx
        have hall' : ∀ j, j < 0 + 1 → pOk (ps.getD j (edflt k3)) = true := fun j hj => by
          by_cases e : j < 0
          · exact hall j e
          · have : j = 0 := by omega
            rw [this, hp]
            exact h1
        have ho0 : o = ⟨#[]⟩ := ho
        subst ho0
        have e0 : (⟨#[]⟩ : ByteArray) ++ ptrT a0 a1 a2 = ptrT a0 a1 a2 := ByteArray.empty_append
        refine br_yes (by have : (⟨#[]⟩ : ByteArray).size = 0 := rfl; omega) ?_
        rw [e0]
        exact next (by omega) _ ⟨by rw [hnx]; exact (joinT_one _ _).symm, by omega, hall'⟩
    · show evP E20 G20 _ (lp20 3) (st20 a0 a1 a2 a3 a4 a5 a6 a7 a8 a9 a10 a11 a12 a13 a14 a15 a16 a17 a18 a19 a20 a21 a22 a23 o 1) (rk20 _ _ 3 _)
      rw [b20_1]
      have hp : ps.getD 1 (edflt k3) = (a3, a4, a5, ()) := by rw [← hps]; rfl
      have hsz := ptrT_size a3 a4 a5
      refine br_not (fun h1 => ?_) (fun h1 => ?_)
      · exact fails (j := 1) (by omega) (by rw [hp]; exact h1)
      · have hnx := pTs_next ps (i := 1) (by omega)
        rw [hp] at hnx
        have hall' : ∀ j, j < 1 + 1 → pOk (ps.getD j (edflt k3)) = true := fun j hj => by
          by_cases e : j < 1
          · exact hall j e
          · have : j = 1 := by omega
            rw [this, hp]
            exact h1
        have hne := take_ne ps (i := 1) (by omega) (by omega)
        refine br_yes (by omega) (br_yes (by rw [ByteArray.size_append, e32]; omega) ?_)
        exact next (by omega) _ ⟨by rw [hnx, joinT_snoc _ _ _ hne, ← ho]; rfl, by rw [ByteArray.size_append, ByteArray.size_append, e32]; omega, hall'⟩
    · show evP E20 G20 _ (lp20 3) (st20 a0 a1 a2 a3 a4 a5 a6 a7 a8 a9 a10 a11 a12 a13 a14 a15 a16 a17 a18 a19 a20 a21 a22 a23 o 2) (rk20 _ _ 3 _)
      rw [b20_2]
      have hp : ps.getD 2 (edflt k3) = (a6, a7, a8, ()) := by rw [← hps]; rfl
      have hsz := ptrT_size a6 a7 a8
      refine br_not (fun h1 => ?_) (fun h1 => ?_)
      · exact fails (j := 2) (by omega) (by rw [hp]; exact h1)
      · have hnx := pTs_next ps (i := 2) (by omega)
        rw [hp] at hnx
        have hall' : ∀ j, j < 2 + 1 → pOk (ps.getD j (edflt k3)) = true := fun j hj => by
          by_cases e : j < 2
          · exact hall j e
          · have : j = 2 := by omega
            rw [this, hp]
            exact h1
        have hne := take_ne ps (i := 2) (by omega) (by omega)
        refine br_yes (by omega) (br_yes (by rw [ByteArray.size_append, e32]; omega) ?_)
        exact next (by omega) _ ⟨by rw [hnx, joinT_snoc _ _ _ hne, ← ho]; rfl, by rw [ByteArray.size_append, ByteArray.size_append, e32]; omega, hall'⟩
    · show evP E20 G20 _ (lp20 3) (st20 a0 a1 a2 a3 a4 a5 a6 a7 a8 a9 a10 a11 a12 a13 a14 a15 a16 a17 a18 a19 a20 a21 a22 a23 o 3) (rk20 _ _ 3 _)
      rw [b20_3]
      have hp : ps.getD 3 (edflt k3) = (a9, a10, a11, ()) := by rw [← hps]; rfl
      have hsz := ptrT_size a9 a10 a11
      refine br_not (fun h1 => ?_) (fun h1 => ?_)
      · exact fails (j := 3) (by omega) (by rw [hp]; exact h1)
      · have hnx := pTs_next ps (i := 3) (by omega)
        rw [hp] at hnx
        have hall' : ∀ j, j < 3 + 1 → pOk (ps.getD j (edflt k3)) = true := fun j hj => by
          by_cases e : j < 3
          · exact hall j e
          · have : j = 3 := by omega
            rw [this, hp]
            exact h1
        have hne := take_ne ps (i := 3) (by omega) (by omega)
        refine br_yes (by omega) (br_yes (by rw [ByteArray.size_append, e32]; omega) ?_)
        exact next (by omega) _ ⟨by rw [hnx, joinT_snoc _ _ _ hne, ← ho]; rfl, by rw [ByteArray.size_append, ByteArray.size_append, e32]; omega, hall'⟩
    · show evP E20 G20 _ (lp20 3) (st20 a0 a1 a2 a3 a4 a5 a6 a7 a8 a9 a10 a11 a12 a13 a14 a15 a16 a17 a18 a19 a20 a21 a22 a23 o 4) (rk20 _ _ 3 _)
      rw [b20_4]
      have hp : ps.getD 4 (edflt k3) = (a12, a13, a14, ()) := by rw [← hps]; rfl
      have hsz := ptrT_size a12 a13 a14
      refine br_not (fun h1 => ?_) (fun h1 => ?_)
      · exact fails (j := 4) (by omega) (by rw [hp]; exact h1)
      · have hnx := pTs_next ps (i := 4) (by omega)
        rw [hp] at hnx
        have hall' : ∀ j, j < 4 + 1 → pOk (ps.getD j (edflt k3)) = true := fun j hj => by
          by_cases e : j < 4
          · exact hall j e
          · have : j = 4 := by omega
            rw [this, hp]
            exact h1
        have hne := take_ne ps (i := 4) (by omega) (by omega)
        refine br_yes (by omega) (br_yes (by rw [ByteArray.size_append, e32]; omega) ?_)
        exact next (by omega) _ ⟨by rw [hnx, joinT_snoc _ _ _ hne, ← ho]; rfl, by rw [ByteArray.size_append, ByteArray.size_append, e32]; omega, hall'⟩
    · show evP E20 G20 _ (lp20 3) (st20 a0 a1 a2 a3 a4 a5 a6 a7 a8 a9 a10 a11 a12 a13 a14 a15 a16 a17 a18 a19 a20 a21 a22 a23 o 5) (rk20 _ _ 3 _)
      rw [b20_5]
      have hp : ps.getD 5 (edflt k3) = (a15, a16, a17, ()) := by rw [← hps]; rfl
      have hsz := ptrT_size a15 a16 a17
      refine br_not (fun h1 => ?_) (fun h1 => ?_)
      · exact fails (j := 5) (by omega) (by rw [hp]; exact h1)
      · have hnx := pTs_next ps (i := 5) (by omega)
        rw [hp] at hnx
        have hall' : ∀ j, j < 5 + 1 → pOk (ps.getD j (edflt k3)) = true := fun j hj => by
          by_cases e : j < 5
          · exact hall j e
          · have : j = 5 := by omega
            rw [this, hp]
            exact h1
        have hne := take_ne ps (i := 5) (by omega) (by omega)
        refine br_yes (by omega) (br_yes (by rw [ByteArray.size_append, e32]; omega) ?_)
        exact next (by omega) _ ⟨by rw [hnx, joinT_snoc _ _ _ hne, ← ho]; rfl, by rw [ByteArray.size_append, ByteArray.size_append, e32]; omega, hall'⟩
    · show evP E20 G20 _ (lp20 3) (st20 a0 a1 a2 a3 a4 a5 a6 a7 a8 a9 a10 a11 a12 a13 a14 a15 a16 a17 a18 a19 a20 a21 a22 a23 o 6) (rk20 _ _ 3 _)
      rw [b20_6]
      have hp : ps.getD 6 (edflt k3) = (a18, a19, a20, ()) := by rw [← hps]; rfl
      have hsz := ptrT_size a18 a19 a20
      refine br_not (fun h1 => ?_) (fun h1 => ?_)
      · exact fails (j := 6) (by omega) (by rw [hp]; exact h1)
      · have hnx := pTs_next ps (i := 6) (by omega)
        rw [hp] at hnx
        have hall' : ∀ j, j < 6 + 1 → pOk (ps.getD j (edflt k3)) = true := fun j hj => by
          by_cases e : j < 6
          · exact hall j e
          · have : j = 6 := by omega
            rw [this, hp]
            exact h1
        have hne := take_ne ps (i := 6) (by omega) (by omega)
        refine br_yes (by omega) (br_yes (by rw [ByteArray.size_append, e32]; omega) ?_)
        exact next (by omega) _ ⟨by rw [hnx, joinT_snoc _ _ _ hne, ← ho]; rfl, by rw [ByteArray.size_append, ByteArray.size_append, e32]; omega, hall'⟩
    · show evP E20 G20 _ (lp20 3) (st20 a0 a1 a2 a3 a4 a5 a6 a7 a8 a9 a10 a11 a12 a13 a14 a15 a16 a17 a18 a19 a20 a21 a22 a23 o 7) (rk20 _ _ 3 _)
      rw [b20_7]
      have hp : ps.getD 7 (edflt k3) = (a21, a22, a23, ()) := by rw [← hps]; rfl
      have hsz := ptrT_size a21 a22 a23
      refine br_not (fun h1 => ?_) (fun h1 => ?_)
      · exact fails (j := 7) (by omega) (by rw [hp]; exact h1)
      · have hnx := pTs_next ps (i := 7) (by omega)
        rw [hp] at hnx
        have hall' : ∀ j, j < 7 + 1 → pOk (ps.getD j (edflt k3)) = true := fun j hj => by
          by_cases e : j < 7
          · exact hall j e
          · have : j = 7 := by omega
            rw [this, hp]
            exact h1
        have hne := take_ne ps (i := 7) (by omega) (by omega)
        refine br_yes (by omega) (br_yes (by rw [ByteArray.size_append, e32]; omega) ?_)
        exact next (by omega) _ ⟨by rw [hnx, joinT_snoc _ _ _ hne, ← ho]; rfl, by rw [ByteArray.size_append, ByteArray.size_append, e32]; omega, hall'⟩
    · show evP E20 G20 _ (lp20 3) (st20 a0 a1 a2 a3 a4 a5 a6 a7 a8 a9 a10 a11 a12 a13 a14 a15 a16 a17 a18 a19 a20 a21 a22 a23 o 8) (rk20 _ _ 3 _)
      rw [b20_8]
      show _ = _
      unfold mapT
      rw [show (allB 8 fun j => pOk (ps.getD j (edflt k3))) = true from allB_t hall, ho, List.take_of_length_le (by simp [pTs]; omega)]
  · exact h.elim
noncomputable def E22 : Env := E0.of Tryd.f22
noncomputable def G22 : Gk := gk [(50, g50), (19, g17), (52, g52)]
noncomputable def lp22 (n : Nat) : Code := (loopOf n (codeOf Tryd.f22)).getD .skip
noncomputable def ct22 (L : Lp) (R : Option Res → Prop) (n : Nat) : Kt := contOf E22 G22 L n (codeOf Tryd.f22) (endK E22 Tryd.f22.results.toList R)
noncomputable def rk22 (L : Lp) (R : Option Res → Prop) (n : Nat) (N : St → Prop) : Kt := rk (jof E22 (lp22 n)) N (ct22 L R n)
noncomputable def LOOP22 (L : Lp) (R : Option Res → Prop) (n : Nat) (st : St) : Prop := L (lp22 n) st (ct22 L R n)
theorem hg22 : HG Tryd.prog G22 := (hg_cons h50 (hg_cons h19 (hg_cons h52 hg_nil)))
theorem okf22 : Ok Tryd.prog E22 := ok0.of Tryd.f22
theorem e22 (L : Lp) (R : Option Res → Prop) (a0 a1 a2 a3 a4 a5 a6 a7 a8 a9 a10 a11 a12 a13 a14 a15 a16 a17 a18 a19 a20 a21 a22 a23 : Int) : (bodyP E0 G22 L Tryd.f22 [.agg [.val (.int .i64 a0), .val (.int .i64 a1), .val (.int .i64 a2), .val (.int .i64 a3), .val (.int .i64 a4), .val (.int .i64 a5), .val (.int .i64 a6), .val (.int .i64 a7), .val (.int .i64 a8), .val (.int .i64 a9), .val (.int .i64 a10), .val (.int .i64 a11), .val (.int .i64 a12), .val (.int .i64 a13), .val (.int .i64 a14), .val (.int .i64 a15), .val (.int .i64 a16), .val (.int .i64 a17), .val (.int .i64 a18), .val (.int .i64 a19), .val (.int .i64 a20), .val (.int .i64 a21), .val (.int .i64 a22), .val (.int .i64 a23)]] [] R) = (
    LOOP22 L R 3 { tm := [AV.agg [vI a0, vI a1, vI a2, vI a3, vI a4, vI a5, vI a6, vI a7, vI a8, vI a9, vI a10, vI a11, vI a12, vI a13, vI a14, vI a15, vI a16, vI a17, vI a18, vI a19, vI a20, vI a21, vI a22, vI a23], vJ, vS { data := #[] }, AV.ows 0, vU, vJ, AV.agg [vI a0, vI a1, vI a2, vI a3, vI a4, vI a5, vI a6, vI a7, vI a8, vI a9, vI a10, vI a11, vI a12, vI a13, vI a14, vI a15, vI a16, vI a17, vI a18, vI a19, vI a20, vI a21, vI a22, vI a23], vI 0, vJ, vJ, vJ, vJ, vJ, vJ, vJ, vJ, vJ, vJ, vJ, vU, vU], ob := [(0, AO.row ks [])], nx := 1000000, ps := [] }) := by kernel_rfl
def st22 (a0 a1 a2 a3 a4 a5 a6 a7 a8 a9 a10 a11 a12 a13 a14 a15 a16 a17 a18 a19 a20 a21 a22 a23 : Int) (i : Int) (ys : List (Elem ks)) : St :=  ⟨[AV.agg [vI a0, vI a1, vI a2, vI a3, vI a4, vI a5, vI a6, vI a7, vI a8, vI a9, vI a10, vI a11, vI a12, vI a13, vI a14, vI a15, vI a16, vI a17, vI a18, vI a19, vI a20, vI a21, vI a22, vI a23], vJ, vS { data := #[] }, AV.ows 0, vU, vJ, AV.agg [vI a0, vI a1, vI a2, vI a3, vI a4, vI a5, vI a6, vI a7, vI a8, vI a9, vI a10, vI a11, vI a12, vI a13, vI a14, vI a15, vI a16, vI a17, vI a18, vI a19, vI a20, vI a21, vI a22, vI a23], .val (.int .i64 i), vJ, vJ, vJ, vJ, vJ, vJ, vJ, vJ, vJ, vJ, vJ, vU, vU], [(0, .row ks ys)], 1000000, []⟩
theorem b22_0 (L : Lp) (R : Option Res → Prop) (N : St → Prop) (a0 a1 a2 a3 a4 a5 a6 a7 a8 a9 a10 a11 a12 a13 a14 a15 a16 a17 a18 a19 a20 a21 a22 a23 : Int) (ys : List (Elem ks)) : (evP E22 G22 L (lp22 3) (st22 a0 a1 a2 a3 a4 a5 a6 a7 a8 a9 a10 a11 a12 a13 a14 a15 a16 a17 a18 a19 a20 a21 a22 a23 0 ys) (rk22 L R 3 N)) = (
    br (!ptrOk a0 a1 a2) (R (some { av := vS { data := #[] }, obs := [], outs := [] })) (br (decide ((ys.length + [(ptrT a0 a1 a2, ())].length) * 16 ≤ 140737488355328)) (N { tm := [AV.agg [vI a0, vI a1, vI a2, vI a3, vI a4, vI a5, vI a6, vI a7, vI a8, vI a9, vI a10, vI a11, vI a12, vI a13, vI a14, vI a15, vI a16, vI a17, vI a18, vI a19, vI a20, vI a21, vI a22, vI a23], vJ, vS { data := #[] }, AV.ows 0, vU, vJ, AV.agg [vI a0, vI a1, vI a2, vI a3, vI a4, vI a5, vI a6, vI a7, vI a8, vI a9, vI a10, vI a11, vI a12, vI a13, vI a14, vI a15, vI a16, vI a17, vI a18, vI a19, vI a20, vI a21, vI a22, vI a23], vI 1, vJ, vJ, vJ, vJ, vJ, vJ, vJ, vJ, vJ, vJ, vJ, vU, vU], ob := [(0, AO.row ks (ys ++ [(ptrT a0 a1 a2, ())]))], nx := 1000000, ps := [] }) False)) := by kernel_rfl
theorem b22_1 (L : Lp) (R : Option Res → Prop) (N : St → Prop) (a0 a1 a2 a3 a4 a5 a6 a7 a8 a9 a10 a11 a12 a13 a14 a15 a16 a17 a18 a19 a20 a21 a22 a23 : Int) (ys : List (Elem ks)) : (evP E22 G22 L (lp22 3) (st22 a0 a1 a2 a3 a4 a5 a6 a7 a8 a9 a10 a11 a12 a13 a14 a15 a16 a17 a18 a19 a20 a21 a22 a23 1 ys) (rk22 L R 3 N)) = (
    br (!ptrOk a3 a4 a5) (R (some { av := vS { data := #[] }, obs := [], outs := [] })) (br (decide ((ys.length + [(ptrT a3 a4 a5, ())].length) * 16 ≤ 140737488355328)) (N { tm := [AV.agg [vI a0, vI a1, vI a2, vI a3, vI a4, vI a5, vI a6, vI a7, vI a8, vI a9, vI a10, vI a11, vI a12, vI a13, vI a14, vI a15, vI a16, vI a17, vI a18, vI a19, vI a20, vI a21, vI a22, vI a23], vJ, vS { data := #[] }, AV.ows 0, vU, vJ, AV.agg [vI a0, vI a1, vI a2, vI a3, vI a4, vI a5, vI a6, vI a7, vI a8, vI a9, vI a10, vI a11, vI a12, vI a13, vI a14, vI a15, vI a16, vI a17, vI a18, vI a19, vI a20, vI a21, vI a22, vI a23], vI 2, vJ, vJ, vJ, vJ, vJ, vJ, vJ, vJ, vJ, vJ, vJ, vU, vU], ob := [(0, AO.row ks (ys ++ [(ptrT a3 a4 a5, ())]))], nx := 1000000, ps := [] }) False)) := by kernel_rfl
theorem b22_2 (L : Lp) (R : Option Res → Prop) (N : St → Prop) (a0 a1 a2 a3 a4 a5 a6 a7 a8 a9 a10 a11 a12 a13 a14 a15 a16 a17 a18 a19 a20 a21 a22 a23 : Int) (ys : List (Elem ks)) : (evP E22 G22 L (lp22 3) (st22 a0 a1 a2 a3 a4 a5 a6 a7 a8 a9 a10 a11 a12 a13 a14 a15 a16 a17 a18 a19 a20 a21 a22 a23 2 ys) (rk22 L R 3 N)) = (
    br (!ptrOk a6 a7 a8) (R (some { av := vS { data := #[] }, obs := [], outs := [] })) (br (decide ((ys.length + [(ptrT a6 a7 a8, ())].length) * 16 ≤ 140737488355328)) (N { tm := [AV.agg [vI a0, vI a1, vI a2, vI a3, vI a4, vI a5, vI a6, vI a7, vI a8, vI a9, vI a10, vI a11, vI a12, vI a13, vI a14, vI a15, vI a16, vI a17, vI a18, vI a19, vI a20, vI a21, vI a22, vI a23], vJ, vS { data := #[] }, AV.ows 0, vU, vJ, AV.agg [vI a0, vI a1, vI a2, vI a3, vI a4, vI a5, vI a6, vI a7, vI a8, vI a9, vI a10, vI a11, vI a12, vI a13, vI a14, vI a15, vI a16, vI a17, vI a18, vI a19, vI a20, vI a21, vI a22, vI a23], vI 3, vJ, vJ, vJ, vJ, vJ, vJ, vJ, vJ, vJ, vJ, vJ, vU, vU], ob := [(0, AO.row ks (ys ++ [(ptrT a6 a7 a8, ())]))], nx := 1000000, ps := [] }) False)) := by kernel_rfl
theorem b22_3 (L : Lp) (R : Option Res → Prop) (N : St → Prop) (a0 a1 a2 a3 a4 a5 a6 a7 a8 a9 a10 a11 a12 a13 a14 a15 a16 a17 a18 a19 a20 a21 a22 a23 : Int) (ys : List (Elem ks)) : (evP E22 G22 L (lp22 3) (st22 a0 a1 a2 a3 a4 a5 a6 a7 a8 a9 a10 a11 a12 a13 a14 a15 a16 a17 a18 a19 a20 a21 a22 a23 3 ys) (rk22 L R 3 N)) = (
    br (!ptrOk a9 a10 a11) (R (some { av := vS { data := #[] }, obs := [], outs := [] })) (br (decide ((ys.length + [(ptrT a9 a10 a11, ())].length) * 16 ≤ 140737488355328)) (N { tm := [AV.agg [vI a0, vI a1, vI a2, vI a3, vI a4, vI a5, vI a6, vI a7, vI a8, vI a9, vI a10, vI a11, vI a12, vI a13, vI a14, vI a15, vI a16, vI a17, vI a18, vI a19, vI a20, vI a21, vI a22, vI a23], vJ, vS { data := #[] }, AV.ows 0, vU, vJ, AV.agg [vI a0, vI a1, vI a2, vI a3, vI a4, vI a5, vI a6, vI a7, vI a8, vI a9, vI a10, vI a11, vI a12, vI a13, vI a14, vI a15, vI a16, vI a17, vI a18, vI a19, vI a20, vI a21, vI a22, vI a23], vI 4, vJ, vJ, vJ, vJ, vJ, vJ, vJ, vJ, vJ, vJ, vJ, vU, vU], ob := [(0, AO.row ks (ys ++ [(ptrT a9 a10 a11, ())]))], nx := 1000000, ps := [] }) False)) := by kernel_rfl
theorem b22_4 (L : Lp) (R : Option Res → Prop) (N : St → Prop) (a0 a1 a2 a3 a4 a5 a6 a7 a8 a9 a10 a11 a12 a13 a14 a15 a16 a17 a18 a19 a20 a21 a22 a23 : Int) (ys : List (Elem ks)) : (evP E22 G22 L (lp22 3) (st22 a0 a1 a2 a3 a4 a5 a6 a7 a8 a9 a10 a11 a12 a13 a14 a15 a16 a17 a18 a19 a20 a21 a22 a23 4 ys) (rk22 L R 3 N)) = (
    br (!ptrOk a12 a13 a14) (R (some { av := vS { data := #[] }, obs := [], outs := [] })) (br (decide ((ys.length + [(ptrT a12 a13 a14, ())].length) * 16 ≤ 140737488355328)) (N { tm := [AV.agg [vI a0, vI a1, vI a2, vI a3, vI a4, vI a5, vI a6, vI a7, vI a8, vI a9, vI a10, vI a11, vI a12, vI a13, vI a14, vI a15, vI a16, vI a17, vI a18, vI a19, vI a20, vI a21, vI a22, vI a23], vJ, vS { data := #[] }, AV.ows 0, vU, vJ, AV.agg [vI a0, vI a1, vI a2, vI a3, vI a4, vI a5, vI a6, vI a7, vI a8, vI a9, vI a10, vI a11, vI a12, vI a13, vI a14, vI a15, vI a16, vI a17, vI a18, vI a19, vI a20, vI a21, vI a22, vI a23], vI 5, vJ, vJ, vJ, vJ, vJ, vJ, vJ, vJ, vJ, vJ, vJ, vU, vU], ob := [(0, AO.row ks (ys ++ [(ptrT a12 a13 a14, ())]))], nx := 1000000, ps := [] }) False)) := by kernel_rfl
theorem b22_5 (L : Lp) (R : Option Res → Prop) (N : St → Prop) (a0 a1 a2 a3 a4 a5 a6 a7 a8 a9 a10 a11 a12 a13 a14 a15 a16 a17 a18 a19 a20 a21 a22 a23 : Int) (ys : List (Elem ks)) : (evP E22 G22 L (lp22 3) (st22 a0 a1 a2 a3 a4 a5 a6 a7 a8 a9 a10 a11 a12 a13 a14 a15 a16 a17 a18 a19 a20 a21 a22 a23 5 ys) (rk22 L R 3 N)) = (
    br (!ptrOk a15 a16 a17) (R (some { av := vS { data := #[] }, obs := [], outs := [] })) (br (decide ((ys.length + [(ptrT a15 a16 a17, ())].length) * 16 ≤ 140737488355328)) (N { tm := [AV.agg [vI a0, vI a1, vI a2, vI a3, vI a4, vI a5, vI a6, vI a7, vI a8, vI a9, vI a10, vI a11, vI a12, vI a13, vI a14, vI a15, vI a16, vI a17, vI a18, vI a19, vI a20, vI a21, vI a22, vI a23], vJ, vS { data := #[] }, AV.ows 0, vU, vJ, AV.agg [vI a0, vI a1, vI a2, vI a3, vI a4, vI a5, vI a6, vI a7, vI a8, vI a9, vI a10, vI a11, vI a12, vI a13, vI a14, vI a15, vI a16, vI a17, vI a18, vI a19, vI a20, vI a21, vI a22, vI a23], vI 6, vJ, vJ, vJ, vJ, vJ, vJ, vJ, vJ, vJ, vJ, vJ, vU, vU], ob := [(0, AO.row ks (ys ++ [(ptrT a15 a16 a17, ())]))], nx := 1000000, ps := [] }) False)) := by kernel_rfl
theorem b22_6 (L : Lp) (R : Option Res → Prop) (N : St → Prop) (a0 a1 a2 a3 a4 a5 a6 a7 a8 a9 a10 a11 a12 a13 a14 a15 a16 a17 a18 a19 a20 a21 a22 a23 : Int) (ys : List (Elem ks)) : (evP E22 G22 L (lp22 3) (st22 a0 a1 a2 a3 a4 a5 a6 a7 a8 a9 a10 a11 a12 a13 a14 a15 a16 a17 a18 a19 a20 a21 a22 a23 6 ys) (rk22 L R 3 N)) = (
    br (!ptrOk a18 a19 a20) (R (some { av := vS { data := #[] }, obs := [], outs := [] })) (br (decide ((ys.length + [(ptrT a18 a19 a20, ())].length) * 16 ≤ 140737488355328)) (N { tm := [AV.agg [vI a0, vI a1, vI a2, vI a3, vI a4, vI a5, vI a6, vI a7, vI a8, vI a9, vI a10, vI a11, vI a12, vI a13, vI a14, vI a15, vI a16, vI a17, vI a18, vI a19, vI a20, vI a21, vI a22, vI a23], vJ, vS { data := #[] }, AV.ows 0, vU, vJ, AV.agg [vI a0, vI a1, vI a2, vI a3, vI a4, vI a5, vI a6, vI a7, vI a8, vI a9, vI a10, vI a11, vI a12, vI a13, vI a14, vI a15, vI a16, vI a17, vI a18, vI a19, vI a20, vI a21, vI a22, vI a23], vI 7, vJ, vJ, vJ, vJ, vJ, vJ, vJ, vJ, vJ, vJ, vJ, vU, vU], ob := [(0, AO.row ks (ys ++ [(ptrT a18 a19 a20, ())]))], nx := 1000000, ps := [] }) False)) := by kernel_rfl
theorem b22_7 (L : Lp) (R : Option Res → Prop) (N : St → Prop) (a0 a1 a2 a3 a4 a5 a6 a7 a8 a9 a10 a11 a12 a13 a14 a15 a16 a17 a18 a19 a20 a21 a22 a23 : Int) (ys : List (Elem ks)) : (evP E22 G22 L (lp22 3) (st22 a0 a1 a2 a3 a4 a5 a6 a7 a8 a9 a10 a11 a12 a13 a14 a15 a16 a17 a18 a19 a20 a21 a22 a23 7 ys) (rk22 L R 3 N)) = (
    br (!ptrOk a21 a22 a23) (R (some { av := vS { data := #[] }, obs := [], outs := [] })) (br (decide ((ys.length + [(ptrT a21 a22 a23, ())].length) * 16 ≤ 140737488355328)) (N { tm := [AV.agg [vI a0, vI a1, vI a2, vI a3, vI a4, vI a5, vI a6, vI a7, vI a8, vI a9, vI a10, vI a11, vI a12, vI a13, vI a14, vI a15, vI a16, vI a17, vI a18, vI a19, vI a20, vI a21, vI a22, vI a23], vJ, vS { data := #[] }, AV.ows 0, vU, vJ, AV.agg [vI a0, vI a1, vI a2, vI a3, vI a4, vI a5, vI a6, vI a7, vI a8, vI a9, vI a10, vI a11, vI a12, vI a13, vI a14, vI a15, vI a16, vI a17, vI a18, vI a19, vI a20, vI a21, vI a22, vI a23], vI 8, vJ, vJ, vJ, vJ, vJ, vJ, vJ, vJ, vJ, vJ, vJ, vU, vU], ob := [(0, AO.row ks (ys ++ [(ptrT a21 a22 a23, ())]))], nx := 1000000, ps := [] }) False)) := by kernel_rfl
theorem b22_8 (L : Lp) (R : Option Res → Prop) (N : St → Prop) (a0 a1 a2 a3 a4 a5 a6 a7 a8 a9 a10 a11 a12 a13 a14 a15 a16 a17 a18 a19 a20 a21 a22 a23 : Int) (ys : List (Elem ks)) : (evP E22 G22 L (lp22 3) (st22 a0 a1 a2 a3 a4 a5 a6 a7 a8 a9 a10 a11 a12 a13 a14 a15 a16 a17 a18 a19 a20 a21 a22 a23 8 ys) (rk22 L R 3 N)) = (
    br (decide (ys.length ≤ 1048576) && decide ((joinT ys { data := #[32] }).size ≤ 1099511627776)) (R (some { av := vS (joinT ys { data := #[32] }), obs := [], outs := [] })) False) := by kernel_rfl
theorem h22 : G1Ok Tryd.prog 22 g20 := by
  intro args obs k h
  unfold g20 at h
  split at h
  · rename_i k us
    split at h
    rotate_left
    · exact h.elim
    rename_i a ha
    obtain rfl := elemOf_inv ha
    obtain ⟨a0, a1, a2, a3, a4, a5, a6, a7, a8, a9, a10, a11, a12, a13, a14, a15, a16, a17, a18, a19, a20, a21, a22, a23, ⟨⟩⟩ := a
    refine ⟨_, ctr_fn ok0 hg22 Tryd.func22 (by kernel_rfl) (by kernel_rfl) (by kernel_rfl) fun C => ?_, h⟩
    show bodyP E0 G22 _ Tryd.f22 [.agg [.val (.int .i64 a0), .val (.int .i64 a1), .val (.int .i64 a2), .val (.int .i64 a3), .val (.int .i64 a4), .val (.int .i64 a5), .val (.int .i64 a6), .val (.int .i64 a7), .val (.int .i64 a8), .val (.int .i64 a9), .val (.int .i64 a10), .val (.int .i64 a11), .val (.int .i64 a12), .val (.int .i64 a13), .val (.int .i64 a14), .val (.int .i64 a15), .val (.int .i64 a16), .val (.int .i64 a17), .val (.int .i64 a18), .val (.int .i64 a19), .val (.int .i64 a20), .val (.int .i64 a21), .val (.int .i64 a22), .val (.int .i64 a23)]] [] _
    rw [e22]
    generalize hps : ps8 (a0, a1, a2, a3, a4, a5, a6, a7, a8, a9, a10, a11, a12, a13, a14, a15, a16, a17, a18, a19, a20, a21, a22, a23, ()) = ps
    have hlen : ps.length = 8 := by rw [← hps]; rfl
    have hpl : (pTs ps).length = 8 := by simp [pTs, hlen]
    have e32 : (⟨#[32]⟩ : ByteArray).size = 1 := rfl
    refine loopUp okf22 hg22 (fun i ys => st22 a0 a1 a2 a3 a4 a5 a6 a7 a8 a9 a10 a11 a12 a13 a14 a15 a16 a17 a18 a19 a20 a21 a22 a23 i ys) 8 (fun i ys => ys = (pTs ps).take i ∧ (joinT ys ⟨#[32]⟩).size ≤ 2000000 * i ∧ ∀ j, j < i → pOk (ps.getD j (edflt k3)) = true) (fun N i ys hi ⟨hy, hs, hall⟩ next => ?_) [] ⟨rfl, Nat.le_refl _, fun j hj => by omega⟩
    have fails : ∀ {j}, j < 8 → pOk (ps.getD j (edflt k3)) = false → (some ⟨.val (.string ⟨#[]⟩), [], []⟩ : Option Res) = some ⟨.val (.string (mapT ps)), [], []⟩ := by
      intro j hj hf
      unfold mapT
      rw [show (allB 8 fun j => pOk (ps.getD j (edflt k3))) = false from allB_f hj hf]
      rfl
    have hyl : ys.length = i := by rw [hy, List.length_take]; omega
    have cs : i = 0 ∨ i = 1 ∨ i = 2 ∨ i = 3 ∨ i = 4 ∨ i = 5 ∨ i = 6 ∨ i = 7 ∨ i = 8 := by omega
    rcases cs with rfl | rfl | rfl | rfl | rfl | rfl | rfl | rfl | rfl
    · show evP E22 G22 _ (lp22 3) (st22 a0 a1 a2 a3 a4 a5 a6 a7 a8 a9 a10 a11 a12 a13 a14 a15 a16 a17 a18 a19 a20 a21 a22 a23 0 ys) (rk22 _ _ 3 _)
      rw [b22_0]
      have hp : ps.getD 0 (edflt k3) = (a0, a1, a2, ()) := by rw [← hps]; rfl
      have hsz := ptrT_size a0 a1 a2
      refine br_not (fun h1 => ?_) (fun h1 => br_yes (by show (ys.length + 1) * 16 ≤ _; omega) ?_)
      · exact fails (j := 0) (by omega) (by rw [hp]; exact h1)
      · have hnx := pTs_next ps (i := 0) (by omega)
        rw [hp] at hnx
        refine next (by omega) _ ⟨by rw [hnx, ← hy]; rfl, ?_, fun j hj => ?_⟩
        · by_cases h0 : ys = []
          · rw [h0, List.nil_append, joinT_one]
            omega
          · rw [joinT_snoc _ _ _ h0, ByteArray.size_append, ByteArray.size_append, e32]
            omega
        · by_cases e : j < 0
          · exact hall j e
          · have : j = 0 := by omega
            rw [this, hp]
            exact h1
    · show evP E22 G22 _ (lp22 3) (st22 a0 a1 a2 a3 a4 a5 a6 a7 a8 a9 a10 a11 a12 a13 a14 a15 a16 a17 a18 a19 a20 a21 a22 a23 1 ys) (rk22 _ _ 3 _)
      rw [b22_1]
      have hp : ps.getD 1 (edflt k3) = (a3, a4, a5, ()) := by rw [← hps]; rfl
      have hsz := ptrT_size a3 a4 a5
      refine br_not (fun h1 => ?_) (fun h1 => br_yes (by show (ys.length + 1) * 16 ≤ _; omega) ?_)
      · exact fails (j := 1) (by omega) (by rw [hp]; exact h1)
      · have hnx := pTs_next ps (i := 1) (by omega)
        rw [hp] at hnx
        refine next (by omega) _ ⟨by rw [hnx, ← hy]; rfl, ?_, fun j hj => ?_⟩
        · by_cases h0 : ys = []
          · rw [h0, List.nil_append, joinT_one]
            omega
          · rw [joinT_snoc _ _ _ h0, ByteArray.size_append, ByteArray.size_append, e32]
            omega
        · by_cases e : j < 1
          · exact hall j e
          · have : j = 1 := by omega
            rw [this, hp]
            exact h1
    · show evP E22 G22 _ (lp22 3) (st22 a0 a1 a2 a3 a4 a5 a6 a7 a8 a9 a10 a11 a12 a13 a14 a15 a16 a17 a18 a19 a20 a21 a22 a23 2 ys) (rk22 _ _ 3 _)
      rw [b22_2]
      have hp : ps.getD 2 (edflt k3) = (a6, a7, a8, ()) := by rw [← hps]; rfl
      have hsz := ptrT_size a6 a7 a8
      refine br_not (fun h1 => ?_) (fun h1 => br_yes (by show (ys.length + 1) * 16 ≤ _; omega) ?_)
      · exact fails (j := 2) (by omega) (by rw [hp]; exact h1)
      · have hnx := pTs_next ps (i := 2) (by omega)
        rw [hp] at hnx
        refine next (by omega) _ ⟨by rw [hnx, ← hy]; rfl, ?_, fun j hj => ?_⟩
        · by_cases h0 : ys = []
          · rw [h0, List.nil_append, joinT_one]
            omega
          · rw [joinT_snoc _ _ _ h0, ByteArray.size_append, ByteArray.size_append, e32]
            omega
        · by_cases e : j < 2
          · exact hall j e
          · have : j = 2 := by omega
            rw [this, hp]
            exact h1
    · show evP E22 G22 _ (lp22 3) (st22 a0 a1 a2 a3 a4 a5 a6 a7 a8 a9 a10 a11 a12 a13 a14 a15 a16 a17 a18 a19 a20 a21 a22 a23 3 ys) (rk22 _ _ 3 _)
      rw [b22_3]
      have hp : ps.getD 3 (edflt k3) = (a9, a10, a11, ()) := by rw [← hps]; rfl
      have hsz := ptrT_size a9 a10 a11
      refine br_not (fun h1 => ?_) (fun h1 => br_yes (by show (ys.length + 1) * 16 ≤ _; omega) ?_)
      · exact fails (j := 3) (by omega) (by rw [hp]; exact h1)
      · have hnx := pTs_next ps (i := 3) (by omega)
        rw [hp] at hnx
        refine next (by omega) _ ⟨by rw [hnx, ← hy]; rfl, ?_, fun j hj => ?_⟩
        · by_cases h0 : ys = []
          · rw [h0, List.nil_append, joinT_one]
            omega
          · rw [joinT_snoc _ _ _ h0, ByteArray.size_append, ByteArray.size_append, e32]
            omega
        · by_cases e : j < 3
          · exact hall j e
          · have : j = 3 := by omega
            rw [this, hp]
            exact h1
    · show evP E22 G22 _ (lp22 3) (st22 a0 a1 a2 a3 a4 a5 a6 a7 a8 a9 a10 a11 a12 a13 a14 a15 a16 a17 a18 a19 a20 a21 a22 a23 4 ys) (rk22 _ _ 3 _)
      rw [b22_4]
      have hp : ps.getD 4 (edflt k3) = (a12, a13, a14, ()) := by rw [← hps]; rfl
      have hsz := ptrT_size a12 a13 a14
      refine br_not (fun h1 => ?_) (fun h1 => br_yes (by show (ys.length + 1) * 16 ≤ _; omega) ?_)
      · exact fails (j := 4) (by omega) (by rw [hp]; exact h1)
      · have hnx := pTs_next ps (i := 4) (by omega)
        rw [hp] at hnx
        refine next (by omega) _ ⟨by rw [hnx, ← hy]; rfl, ?_, fun j hj => ?_⟩
        · by_cases h0 : ys = []
          · rw [h0, List.nil_append, joinT_one]
            omega
          · rw [joinT_snoc _ _ _ h0, ByteArray.size_append, ByteArray.size_append, e32]
            omega
        · by_cases e : j < 4
          · exact hall j e
          · have : j = 4 := by omega
            rw [this, hp]
            exact h1
    · show evP E22 G22 _ (lp22 3) (st22 a0 a1 a2 a3 a4 a5 a6 a7 a8 a9 a10 a11 a12 a13 a14 a15 a16 a17 a18 a19 a20 a21 a22 a23 5 ys) (rk22 _ _ 3 _)
      rw [b22_5]
      have hp : ps.getD 5 (edflt k3) = (a15, a16, a17, ()) := by rw [← hps]; rfl
      have hsz := ptrT_size a15 a16 a17
      refine br_not (fun h1 => ?_) (fun h1 => br_yes (by show (ys.length + 1) * 16 ≤ _; omega) ?_)
      · exact fails (j := 5) (by omega) (by rw [hp]; exact h1)
      · have hnx := pTs_next ps (i := 5) (by omega)
        rw [hp] at hnx
        refine next (by omega) _ ⟨by rw [hnx, ← hy]; rfl, ?_, fun j hj => ?_⟩
        · by_cases h0 : ys = []
          · rw [h0, List.nil_append, joinT_one]
            omega
          · rw [joinT_snoc _ _ _ h0, ByteArray.size_append, ByteArray.size_append, e32]
            omega
        · by_cases e : j < 5
          · exact hall j e
          · have : j = 5 := by omega
            rw [this, hp]
            exact h1
    · show evP E22 G22 _ (lp22 3) (st22 a0 a1 a2 a3 a4 a5 a6 a7 a8 a9 a10 a11 a12 a13 a14 a15 a16 a17 a18 a19 a20 a21 a22 a23 6 ys) (rk22 _ _ 3 _)
      rw [b22_6]
      have hp : ps.getD 6 (edflt k3) = (a18, a19, a20, ()) := by rw [← hps]; rfl
      have hsz := ptrT_size a18 a19 a20
      refine br_not (fun h1 => ?_) (fun h1 => br_yes (by show (ys.length + 1) * 16 ≤ _; omega) ?_)
      · exact fails (j := 6) (by omega) (by rw [hp]; exact h1)
      · have hnx := pTs_next ps (i := 6) (by omega)
        rw [hp] at hnx
        refine next (by omega) _ ⟨by rw [hnx, ← hy]; rfl, ?_, fun j hj => ?_⟩
        · by_cases h0 : ys = []
          · rw [h0, List.nil_append, joinT_one]
            omega
          · rw [joinT_snoc _ _ _ h0, ByteArray.size_append, ByteArray.size_append, e32]
            omega
        · by_cases e : j < 6
          · exact hall j e
          · have : j = 6 := by omega
            rw [this, hp]
            exact h1
    · show evP E22 G22 _ (lp22 3) (st22 a0 a1 a2 a3 a4 a5 a6 a7 a8 a9 a10 a11 a12 a13 a14 a15 a16 a17 a18 a19 a20 a21 a22 a23 7 ys) (rk22 _ _ 3 _)
      rw [b22_7]
      have hp : ps.getD 7 (edflt k3) = (a21, a22, a23, ()) := by rw [← hps]; rfl
      have hsz := ptrT_size a21 a22 a23
      refine br_not (fun h1 => ?_) (fun h1 => br_yes (by show (ys.length + 1) * 16 ≤ _; omega) ?_)
      · exact fails (j := 7) (by omega) (by rw [hp]; exact h1)
      · have hnx := pTs_next ps (i := 7) (by omega)
        rw [hp] at hnx
        refine next (by omega) _ ⟨by rw [hnx, ← hy]; rfl, ?_, fun j hj => ?_⟩
        · by_cases h0 : ys = []
          · rw [h0, List.nil_append, joinT_one]
            omega
          · rw [joinT_snoc _ _ _ h0, ByteArray.size_append, ByteArray.size_append, e32]
            omega
        · by_cases e : j < 7
          · exact hall j e
          · have : j = 7 := by omega
            rw [this, hp]
            exact h1
    · show evP E22 G22 _ (lp22 3) (st22 a0 a1 a2 a3 a4 a5 a6 a7 a8 a9 a10 a11 a12 a13 a14 a15 a16 a17 a18 a19 a20 a21 a22 a23 8 ys) (rk22 _ _ 3 _)
      rw [b22_8]
      have hyx : ys = pTs ps := by rw [hy, List.take_of_length_le (by omega)]
      have e2 : (joinT ys ⟨#[32]⟩).size ≤ 1099511627776 := by omega
      refine br_t ?_ ?_
      · rw [decide_eq_true (show ys.length ≤ 1048576 by omega), decide_eq_true e2]
        rfl
      · show _ = _
        unfold mapT
        rw [show (allB 8 fun j => pOk (ps.getD j (edflt k3))) = true from allB_t hall, hyx]
  · exact h.elim
noncomputable def E6 : Env := E0.of Tryd.f6
noncomputable def G6 : Gk := gk [(20, g20), (21, g21), (22, g20)]
noncomputable def lp6 (n : Nat) : Code := (loopOf n (codeOf Tryd.f6)).getD .skip
noncomputable def ct6 (L : Lp) (R : Option Res → Prop) (n : Nat) : Kt := contOf E6 G6 L n (codeOf Tryd.f6) (endK E6 Tryd.f6.results.toList R)
noncomputable def rk6 (L : Lp) (R : Option Res → Prop) (n : Nat) (N : St → Prop) : Kt := rk (jof E6 (lp6 n)) N (ct6 L R n)
noncomputable def LOOP6 (L : Lp) (R : Option Res → Prop) (n : Nat) (st : St) : Prop := L (lp6 n) st (ct6 L R n)
theorem hg6 : HG Tryd.prog G6 := (hg_cons h20 (hg_cons h21 (hg_cons h22 hg_nil)))
theorem okf6 : Ok Tryd.prog E6 := ok0.of Tryd.f6
theorem e6 (L : Lp) (R : Option Res → Prop) (a0 a1 a2 a3 a4 a5 a6 a7 a8 a9 a10 a11 a12 a13 a14 a15 a16 a17 a18 a19 a20 a21 a22 a23 : Int) : (bodyP E0 G6 L Tryd.f6 [.agg [.val (.int .i64 a0), .val (.int .i64 a1), .val (.int .i64 a2), .val (.int .i64 a3), .val (.int .i64 a4), .val (.int .i64 a5), .val (.int .i64 a6), .val (.int .i64 a7), .val (.int .i64 a8), .val (.int .i64 a9), .val (.int .i64 a10), .val (.int .i64 a11), .val (.int .i64 a12), .val (.int .i64 a13), .val (.int .i64 a14), .val (.int .i64 a15), .val (.int .i64 a16), .val (.int .i64 a17), .val (.int .i64 a18), .val (.int .i64 a19), .val (.int .i64 a20), .val (.int .i64 a21), .val (.int .i64 a22), .val (.int .i64 a23)]] [] R) = (
    br (!strEq (mapT (ps8 (a0, a1, a2, a3, a4, a5, a6, a7, a8, a9, a10, a11, a12, a13, a14, a15, a16, a17, a18, a19, a20, a21, a22, a23, ()))) (mapT (ps8 (a0, a1, a2, a3, a4, a5, a6, a7, a8, a9, a10, a11, a12, a13, a14, a15, a16, a17, a18, a19, a20, a21, a22, a23, ())))) (R (some { av := vB false, obs := [], outs := [] })) (R (some { av := vB true, obs := [], outs := [] }))) := by kernel_rfl
theorem c6 (a0 a1 a2 a3 a4 a5 a6 a7 a8 a9 a10 a11 a12 a13 a14 a15 a16 a17 a18 a19 a20 a21 a22 a23 : Int) : Ctr Tryd.prog 6 [.agg [.val (.int .i64 a0), .val (.int .i64 a1), .val (.int .i64 a2), .val (.int .i64 a3), .val (.int .i64 a4), .val (.int .i64 a5), .val (.int .i64 a6), .val (.int .i64 a7), .val (.int .i64 a8), .val (.int .i64 a9), .val (.int .i64 a10), .val (.int .i64 a11), .val (.int .i64 a12), .val (.int .i64 a13), .val (.int .i64 a14), .val (.int .i64 a15), .val (.int .i64 a16), .val (.int .i64 a17), .val (.int .i64 a18), .val (.int .i64 a19), .val (.int .i64 a20), .val (.int .i64 a21), .val (.int .i64 a22), .val (.int .i64 a23)]] [] ⟨.val (.bool true), [], []⟩ := by
  refine ctr_fn ok0 hg6 Tryd.func6 (by kernel_rfl) (by kernel_rfl) (by kernel_rfl) fun C => ?_
  rw [e6]
  refine br_not (fun h => ?_) (fun _ => rfl)
  rw [strEq_self] at h
  cases h
end Go.Proofs.YtljilcingbohkaaDoor.Ev
