/- The law of CoreMap. -/
import Derived.Test.YtljilcingbohkabDoorD6T
import Derived.Test.YtljilcingbohkabDoorD4
namespace Go.Proofs.YtljilcingbohkabDoor.Ev
open Go
set_option linter.unusedVariables false
set_option linter.unusedSimpArgs false
set_option maxRecDepth 100000
def g152 : G1
  | [.agg us], [], k => match elemOf [.int .i64, .int .i64, .int .i64, .int .i64, .int .i64, .int .i64, .int .i64, .int .i64, .int .i64, .int .i64, .int .i64, .int .i64, .int .i64, .int .i64, .int .i64, .int .i64, .int .i64, .int .i64, .int .i64, .int .i64, .int .i64, .int .i64, .int .i64, .int .i64] us with
    | some a => k ⟨.agg ((vals [.int .i64, .int .i64, .int .i64, .int .i64, .int .i64, .int .i64, .int .i64, .int .i64, .int .i64, .int .i64, .int .i64, .int .i64, .int .i64, .int .i64, .int .i64, .int .i64, .int .i64, .int .i64, .int .i64, .int .i64, .int .i64, .int .i64, .int .i64, .int .i64] a).map .val), [], []⟩
    | none => False
  | _, _, _ => False
noncomputable def E152 : Env := E0.of Tryd.f152
noncomputable def G152 : Gk := gk [(117, g117)]
noncomputable def lp152 (n : Nat) : Code := (loopOf n (codeOf Tryd.f152)).getD .skip
noncomputable def ct152 (L : Lp) (R : Option Res → Prop) (n : Nat) : Kt := contOf E152 G152 L n (codeOf Tryd.f152) (endK E152 Tryd.f152.results.toList R)
noncomputable def rk152 (L : Lp) (R : Option Res → Prop) (n : Nat) (N : St → Prop) : Kt := rk (jof E152 (lp152 n)) N (ct152 L R n)
noncomputable def rkn152 (L : Lp) (R : Option Res → Prop) (n : Nat) (N : St → Prop) (m : Nat) (N2 : St → Prop) : Kt := rk (jof E152 (lp152 m)) N2 (contOf E152 G152 L m (lp152 n) (rk152 L R n N))
noncomputable def LOOPN152 (L : Lp) (R : Option Res → Prop) (n : Nat) (N : St → Prop) (m : Nat) (st : St) : Prop := L (lp152 m) st (contOf E152 G152 L m (lp152 n) (rk152 L R n N))
noncomputable def LOOP152 (L : Lp) (R : Option Res → Prop) (n : Nat) (st : St) : Prop := L (lp152 n) st (ct152 L R n)
theorem hg152 : HG Tryd.prog G152 := (hg_cons h117 hg_nil)
theorem okf152 : Ok Tryd.prog E152 := ok0.of Tryd.f152
theorem e152 (L : Lp) (R : Option Res → Prop) (a0 : Int) (a1 : Int) (a2 : Int) (a3 : Int) (a4 : Int) (a5 : Int) (a6 : Int) (a7 : Int) (a8 : Int) (a9 : Int) (a10 : Int) (a11 : Int) (a12 : Int) (a13 : Int) (a14 : Int) (a15 : Int) (a16 : Int) (a17 : Int) (a18 : Int) (a19 : Int) (a20 : Int) (a21 : Int) (a22 : Int) (a23 : Int) : (bodyP E0 G152 L Tryd.f152 [.agg [.val (.int .i64 a0), .val (.int .i64 a1), .val (.int .i64 a2), .val (.int .i64 a3), .val (.int .i64 a4), .val (.int .i64 a5), .val (.int .i64 a6), .val (.int .i64 a7), .val (.int .i64 a8), .val (.int .i64 a9), .val (.int .i64 a10), .val (.int .i64 a11), .val (.int .i64 a12), .val (.int .i64 a13), .val (.int .i64 a14), .val (.int .i64 a15), .val (.int .i64 a16), .val (.int .i64 a17), .val (.int .i64 a18), .val (.int .i64 a19), .val (.int .i64 a20), .val (.int .i64 a21), .val (.int .i64 a22), .val (.int .i64 a23)]] [] R) = (
    LOOP152 L R 3 { tm := [AV.agg [vI a0, vI a1, vI a2, vI a3, vI a4, vI a5, vI a6, vI a7, vI a8, vI a9, vI a10, vI a11, vI a12, vI a13, vI a14, vI a15, vI a16, vI a17, vI a18, vI a19, vI a20, vI a21, vI a22, vI a23], AV.ptr 0 0, AV.ptr 1 0, AV.ptr 2 0, vI 0, vJ, vJ, vJ, vJ, vJ, vJ, vJ, vJ, vJ, vJ, vU], ob := [(0, AO.box [vI a0, vI a1, vI a2, vI a3, vI a4, vI a5, vI a6, vI a7, vI a8, vI a9, vI a10, vI a11, vI a12, vI a13, vI a14, vI a15, vI a16, vI a17, vI a18, vI a19, vI a20, vI a21, vI a22, vI a23]), (1, AO.box [vI 0, vI 0, vI 0, vI 0, vI 0, vI 0, vI 0, vI 0, vI 0, vI 0, vI 0, vI 0, vI 0, vI 0, vI 0, vI 0, vI 0, vI 0, vI 0, vI 0, vI 0, vI 0, vI 0, vI 0]), (2, AO.box [vI 0, vI 0, vI 0, vI 0, vI 0, vI 0, vI 0, vI 0, vI 0, vI 0, vI 0, vI 0, vI 0, vI 0, vI 0, vI 0, vI 0, vI 0, vI 0, vI 0, vI 0, vI 0, vI 0, vI 0])], nx := 1000000, ps := [] }) := by kernel_rfl
def st152 (a0 : Int) (a1 : Int) (a2 : Int) (a3 : Int) (a4 : Int) (a5 : Int) (a6 : Int) (a7 : Int) (a8 : Int) (a9 : Int) (a10 : Int) (a11 : Int) (a12 : Int) (a13 : Int) (a14 : Int) (a15 : Int) (a16 : Int) (a17 : Int) (a18 : Int) (a19 : Int) (a20 : Int) (a21 : Int) (a22 : Int) (a23 : Int) (i : Int) (b0 : Int) (b1 : Int) (b2 : Int) (b3 : Int) (b4 : Int) (b5 : Int) (b6 : Int) (b7 : Int) (b8 : Int) (b9 : Int) (b10 : Int) (b11 : Int) (b12 : Int) (b13 : Int) (b14 : Int) (b15 : Int) (b16 : Int) (b17 : Int) (b18 : Int) (b19 : Int) (b20 : Int) (b21 : Int) (b22 : Int) (b23 : Int) : St :=  ⟨[AV.agg [vI a0, vI a1, vI a2, vI a3, vI a4, vI a5, vI a6, vI a7, vI a8, vI a9, vI a10, vI a11, vI a12, vI a13, vI a14, vI a15, vI a16, vI a17, vI a18, vI a19, vI a20, vI a21, vI a22, vI a23], AV.ptr 0 0, AV.ptr 1 0, AV.ptr 2 0, .val (.int .i64 i), vJ, vJ, vJ, vJ, vJ, vJ, vJ, vJ, vJ, vJ, vU], [(0, AO.box [vI a0, vI a1, vI a2, vI a3, vI a4, vI a5, vI a6, vI a7, vI a8, vI a9, vI a10, vI a11, vI a12, vI a13, vI a14, vI a15, vI a16, vI a17, vI a18, vI a19, vI a20, vI a21, vI a22, vI a23]), (1, AO.box [vI 0, vI 0, vI 0, vI 0, vI 0, vI 0, vI 0, vI 0, vI 0, vI 0, vI 0, vI 0, vI 0, vI 0, vI 0, vI 0, vI 0, vI 0, vI 0, vI 0, vI 0, vI 0, vI 0, vI 0]), (2, .box [.val (.int .i64 b0), .val (.int .i64 b1), .val (.int .i64 b2), .val (.int .i64 b3), .val (.int .i64 b4), .val (.int .i64 b5), .val (.int .i64 b6), .val (.int .i64 b7), .val (.int .i64 b8), .val (.int .i64 b9), .val (.int .i64 b10), .val (.int .i64 b11), .val (.int .i64 b12), .val (.int .i64 b13), .val (.int .i64 b14), .val (.int .i64 b15), .val (.int .i64 b16), .val (.int .i64 b17), .val (.int .i64 b18), .val (.int .i64 b19), .val (.int .i64 b20), .val (.int .i64 b21), .val (.int .i64 b22), .val (.int .i64 b23)])], 1000000, []⟩
theorem b152_0 (L : Lp) (R : Option Res → Prop) (N : St → Prop) (a0 : Int) (a1 : Int) (a2 : Int) (a3 : Int) (a4 : Int) (a5 : Int) (a6 : Int) (a7 : Int) (a8 : Int) (a9 : Int) (a10 : Int) (a11 : Int) (a12 : Int) (a13 : Int) (a14 : Int) (a15 : Int) (a16 : Int) (a17 : Int) (a18 : Int) (a19 : Int) (a20 : Int) (a21 : Int) (a22 : Int) (a23 : Int) : (evP E152 G152 L (lp152 3) (st152 a0 a1 a2 a3 a4 a5 a6 a7 a8 a9 a10 a11 a12 a13 a14 a15 a16 a17 a18 a19 a20 a21 a22 a23 0 0 0 0 0 0 0 0 0 0 0 0 0 0 0 0 0 0 0 0 0 0 0 0 0) (rk152 L R 3 N)) = (
    N { tm := [AV.agg [vI a0, vI a1, vI a2, vI a3, vI a4, vI a5, vI a6, vI a7, vI a8, vI a9, vI a10, vI a11, vI a12, vI a13, vI a14, vI a15, vI a16, vI a17, vI a18, vI a19, vI a20, vI a21, vI a22, vI a23], AV.ptr 0 0, AV.ptr 1 0, AV.ptr 2 0, vI 1, vJ, vJ, vJ, vJ, vJ, vJ, vJ, vJ, vJ, vJ, vU], ob := [(0, AO.box [vI a0, vI a1, vI a2, vI a3, vI a4, vI a5, vI a6, vI a7, vI a8, vI a9, vI a10, vI a11, vI a12, vI a13, vI a14, vI a15, vI a16, vI a17, vI a18, vI a19, vI a20, vI a21, vI a22, vI a23]), (1, AO.box [vI 0, vI 0, vI 0, vI 0, vI 0, vI 0, vI 0, vI 0, vI 0, vI 0, vI 0, vI 0, vI 0, vI 0, vI 0, vI 0, vI 0, vI 0, vI 0, vI 0, vI 0, vI 0, vI 0, vI 0]), (2, AO.box [vI a0, vI a1, vI a2, vI 0, vI 0, vI 0, vI 0, vI 0, vI 0, vI 0, vI 0, vI 0, vI 0, vI 0, vI 0, vI 0, vI 0, vI 0, vI 0, vI 0, vI 0, vI 0, vI 0, vI 0])], nx := 1000000, ps := [] }) := by kernel_rfl
theorem b152_1 (L : Lp) (R : Option Res → Prop) (N : St → Prop) (a0 : Int) (a1 : Int) (a2 : Int) (a3 : Int) (a4 : Int) (a5 : Int) (a6 : Int) (a7 : Int) (a8 : Int) (a9 : Int) (a10 : Int) (a11 : Int) (a12 : Int) (a13 : Int) (a14 : Int) (a15 : Int) (a16 : Int) (a17 : Int) (a18 : Int) (a19 : Int) (a20 : Int) (a21 : Int) (a22 : Int) (a23 : Int) : (evP E152 G152 L (lp152 3) (st152 a0 a1 a2 a3 a4 a5 a6 a7 a8 a9 a10 a11 a12 a13 a14 a15 a16 a17 a18 a19 a20 a21 a22 a23 1 a0 a1 a2 0 0 0 0 0 0 0 0 0 0 0 0 0 0 0 0 0 0 0 0 0) (rk152 L R 3 N)) = (
    N { tm := [AV.agg [vI a0, vI a1, vI a2, vI a3, vI a4, vI a5, vI a6, vI a7, vI a8, vI a9, vI a10, vI a11, vI a12, vI a13, vI a14, vI a15, vI a16, vI a17, vI a18, vI a19, vI a20, vI a21, vI a22, vI a23], AV.ptr 0 0, AV.ptr 1 0, AV.ptr 2 0, vI 2, vJ, vJ, vJ, vJ, vJ, vJ, vJ, vJ, vJ, vJ, vU], ob := [(0, AO.box [vI a0, vI a1, vI a2, vI a3, vI a4, vI a5, vI a6, vI a7, vI a8, vI a9, vI a10, vI a11, vI a12, vI a13, vI a14, vI a15, vI a16, vI a17, vI a18, vI a19, vI a20, vI a21, vI a22, vI a23]), (1, AO.box [vI 0, vI 0, vI 0, vI 0, vI 0, vI 0, vI 0, vI 0, vI 0, vI 0, vI 0, vI 0, vI 0, vI 0, vI 0, vI 0, vI 0, vI 0, vI 0, vI 0, vI 0, vI 0, vI 0, vI 0]), (2, AO.box [vI a0, vI a1, vI a2, vI a3, vI a4, vI a5, vI 0, vI 0, vI 0, vI 0, vI 0, vI 0, vI 0, vI 0, vI 0, vI 0, vI 0, vI 0, vI 0, vI 0, vI 0, vI 0, vI 0, vI 0])], nx := 1000000, ps := [] }) := by kernel_rfl
theorem b152_2 (L : Lp) (R : Option Res → Prop) (N : St → Prop) (a0 : Int) (a1 : Int) (a2 : Int) (a3 : Int) (a4 : Int) (a5 : Int) (a6 : Int) (a7 : Int) (a8 : Int) (a9 : Int) (a10 : Int) (a11 : Int) (a12 : Int) (a13 : Int) (a14 : Int) (a15 : Int) (a16 : Int) (a17 : Int) (a18 : Int) (a19 : Int) (a20 : Int) (a21 : Int) (a22 : Int) (a23 : Int) : (evP E152 G152 L (lp152 3) (st152 a0 a1 a2 a3 a4 a5 a6 a7 a8 a9 a10 a11 a12 a13 a14 a15 a16 a17 a18 a19 a20 a21 a22 a23 2 a0 a1 a2 a3 a4 a5 0 0 0 0 0 0 0 0 0 0 0 0 0 0 0 0 0 0) (rk152 L R 3 N)) = (
    N { tm := [AV.agg [vI a0, vI a1, vI a2, vI a3, vI a4, vI a5, vI a6, vI a7, vI a8, vI a9, vI a10, vI a11, vI a12, vI a13, vI a14, vI a15, vI a16, vI a17, vI a18, vI a19, vI a20, vI a21, vI a22, vI a23], AV.ptr 0 0, AV.ptr 1 0, AV.ptr 2 0, vI 3, vJ, vJ, vJ, vJ, vJ, vJ, vJ, vJ, vJ, vJ, vU], ob := [(0, AO.box [vI a0, vI a1, vI a2, vI a3, vI a4, vI a5, vI a6, vI a7, vI a8, vI a9, vI a10, vI a11, vI a12, vI a13, vI a14, vI a15, vI a16, vI a17, vI a18, vI a19, vI a20, vI a21, vI a22, vI a23]), (1, AO.box [vI 0, vI 0, vI 0, vI 0, vI 0, vI 0, vI 0, vI 0, vI 0, vI 0, vI 0, vI 0, vI 0, vI 0, vI 0, vI 0, vI 0, vI 0, vI 0, vI 0, vI 0, vI 0, vI 0, vI 0]), (2, AO.box [vI a0, vI a1, vI a2, vI a3, vI a4, vI a5, vI a6, vI a7, vI a8, vI 0, vI 0, vI 0, vI 0, vI 0, vI 0, vI 0, vI 0, vI 0, vI 0, vI 0, vI 0, vI 0, vI 0, vI 0])], nx := 1000000, ps := [] }) := by kernel_rfl
theorem b152_3 (L : Lp) (R : Option Res → Prop) (N : St → Prop) (a0 : Int) (a1 : Int) (a2 : Int) (a3 : Int) (a4 : Int) (a5 : Int) (a6 : Int) (a7 : Int) (a8 : Int) (a9 : Int) (a10 : Int) (a11 : Int) (a12 : Int) (a13 : Int) (a14 : Int) (a15 : Int) (a16 : Int) (a17 : Int) (a18 : Int) (a19 : Int) (a20 : Int) (a21 : Int) (a22 : Int) (a23 : Int) : (evP E152 G152 L (lp152 3) (st152 a0 a1 a2 a3 a4 a5 a6 a7 a8 a9 a10 a11 a12 a13 a14 a15 a16 a17 a18 a19 a20 a21 a22 a23 3 a0 a1 a2 a3 a4 a5 a6 a7 a8 0 0 0 0 0 0 0 0 0 0 0 0 0 0 0) (rk152 L R 3 N)) = (
    N { tm := [AV.agg [vI a0, vI a1, vI a2, vI a3, vI a4, vI a5, vI a6, vI a7, vI a8, vI a9, vI a10, vI a11, vI a12, vI a13, vI a14, vI a15, vI a16, vI a17, vI a18, vI a19, vI a20, vI a21, vI a22, vI a23], AV.ptr 0 0, AV.ptr 1 0, AV.ptr 2 0, vI 4, vJ, vJ, vJ, vJ, vJ, vJ, vJ, vJ, vJ, vJ, vU], ob := [(0, AO.box [vI a0, vI a1, vI a2, vI a3, vI a4, vI a5, vI a6, vI a7, vI a8, vI a9, vI a10, vI a11, vI a12, vI a13, vI a14, vI a15, vI a16, vI a17, vI a18, vI a19, vI a20, vI a21, vI a22, vI a23]), (1, AO.box [vI 0, vI 0, vI 0, vI 0, vI 0, vI 0, vI 0, vI 0, vI 0, vI 0, vI 0, vI 0, vI 0, vI 0, vI 0, vI 0, vI 0, vI 0, vI 0, vI 0, vI 0, vI 0, vI 0, vI 0]), (2, AO.box [vI a0, vI a1, vI a2, vI a3, vI a4, vI a5, vI a6, vI a7, vI a8, vI a9, vI a10, vI a11, vI 0, vI 0, vI 0, vI 0, vI 0, vI 0, vI 0, vI 0, vI 0, vI 0, vI 0, vI 0])], nx := 1000000, ps := [] }) := by kernel_rfl
theorem b152_4 (L : Lp) (R : Option Res → Prop) (N : St → Prop) (a0 : Int) (a1 : Int) (a2 : Int) (a3 : Int) (a4 : Int) (a5 : Int) (a6 : Int) (a7 : Int) (a8 : Int) (a9 : Int) (a10 : Int) (a11 : Int) (a12 : Int) (a13 : Int) (a14 : Int) (a15 : Int) (a16 : Int) (a17 : Int) (a18 : Int) (a19 : Int) (a20 : Int) (a21 : Int) (a22 : Int) (a23 : Int) : (evP E152 G152 L (lp152 3) (st152 a0 a1 a2 a3 a4 a5 a6 a7 a8 a9 a10 a11 a12 a13 a14 a15 a16 a17 a18 a19 a20 a21 a22 a23 4 a0 a1 a2 a3 a4 a5 a6 a7 a8 a9 a10 a11 0 0 0 0 0 0 0 0 0 0 0 0) (rk152 L R 3 N)) = (
    N { tm := [AV.agg [vI a0, vI a1, vI a2, vI a3, vI a4, vI a5, vI a6, vI a7, vI a8, vI a9, vI a10, vI a11, vI a12, vI a13, vI a14, vI a15, vI a16, vI a17, vI a18, vI a19, vI a20, vI a21, vI a22, vI a23], AV.ptr 0 0, AV.ptr 1 0, AV.ptr 2 0, vI 5, vJ, vJ, vJ, vJ, vJ, vJ, vJ, vJ, vJ, vJ, vU], ob := [(0, AO.box [vI a0, vI a1, vI a2, vI a3, vI a4, vI a5, vI a6, vI a7, vI a8, vI a9, vI a10, vI a11, vI a12, vI a13, vI a14, vI a15, vI a16, vI a17, vI a18, vI a19, vI a20, vI a21, vI a22, vI a23]), (1, AO.box [vI 0, vI 0, vI 0, vI 0, vI 0, vI 0, vI 0, vI 0, vI 0, vI 0, vI 0, vI 0, vI 0, vI 0, vI 0, vI 0, vI 0, vI 0, vI 0, vI 0, vI 0, vI 0, vI 0, vI 0]), (2, AO.box [vI a0, vI a1, vI a2, vI a3, vI a4, vI a5, vI a6, vI a7, vI a8, vI a9, vI a10, vI a11, vI a12, vI a13, vI a14, vI 0, vI 0, vI 0, vI 0, vI 0, vI 0, vI 0, vI 0, vI 0])], nx := 1000000, ps := [] }) := by kernel_rfl
theorem b152_5 (L : Lp) (R : Option Res → Prop) (N : St → Prop) (a0 : Int) (a1 : Int) (a2 : Int) (a3 : Int) (a4 : Int) (a5 : Int) (a6 : Int) (a7 : Int) (a8 : Int) (a9 : Int) (a10 : Int) (a11 : Int) (a12 : Int) (a13 : Int) (a14 : Int) (a15 : Int) (a16 : Int) (a17 : Int) (a18 : Int) (a19 : Int) (a20 : Int) (a21 : Int) (a22 : Int) (a23 : Int) : (evP E152 G152 L (lp152 3) (st152 a0 a1 a2 a3 a4 a5 a6 a7 a8 a9 a10 a11 a12 a13 a14 a15 a16 a17 a18 a19 a20 a21 a22 a23 5 a0 a1 a2 a3 a4 a5 a6 a7 a8 a9 a10 a11 a12 a13 a14 0 0 0 0 0 0 0 0 0) (rk152 L R 3 N)) = (
    N { tm := [AV.agg [vI a0, vI a1, vI a2, vI a3, vI a4, vI a5, vI a6, vI a7, vI a8, vI a9, vI a10, vI a11, vI a12, vI a13, vI a14, vI a15, vI a16, vI a17, vI a18, vI a19, vI a20, vI a21, vI a22, vI a23], AV.ptr 0 0, AV.ptr 1 0, AV.ptr 2 0, vI 6, vJ, vJ, vJ, vJ, vJ, vJ, vJ, vJ, vJ, vJ, vU], ob := [(0, AO.box [vI a0, vI a1, vI a2, vI a3, vI a4, vI a5, vI a6, vI a7, vI a8, vI a9, vI a10, vI a11, vI a12, vI a13, vI a14, vI a15, vI a16, vI a17, vI a18, vI a19, vI a20, vI a21, vI a22, vI a23]), (1, AO.box [vI 0, vI 0, vI 0, vI 0, vI 0, vI 0, vI 0, vI 0, vI 0, vI 0, vI 0, vI 0, vI 0, vI 0, vI 0, vI 0, vI 0, vI 0, vI 0, vI 0, vI 0, vI 0, vI 0, vI 0]), (2, AO.box [vI a0, vI a1, vI a2, vI a3, vI a4, vI a5, vI a6, vI a7, vI a8, vI a9, vI a10, vI a11, vI a12, vI a13, vI a14, vI a15, vI a16, vI a17, vI 0, vI 0, vI 0, vI 0, vI 0, vI 0])], nx := 1000000, ps := [] }) := by kernel_rfl
theorem b152_6 (L : Lp) (R : Option Res → Prop) (N : St → Prop) (a0 : Int) (a1 : Int) (a2 : Int) (a3 : Int) (a4 : Int) (a5 : Int) (a6 : Int) (a7 : Int) (a8 : Int) (a9 : Int) (a10 : Int) (a11 : Int) (a12 : Int) (a13 : Int) (a14 : Int) (a15 : Int) (a16 : Int) (a17 : Int) (a18 : Int) (a19 : Int) (a20 : Int) (a21 : Int) (a22 : Int) (a23 : Int) : (evP E152 G152 L (lp152 3) (st152 a0 a1 a2 a3 a4 a5 a6 a7 a8 a9 a10 a11 a12 a13 a14 a15 a16 a17 a18 a19 a20 a21 a22 a23 6 a0 a1 a2 a3 a4 a5 a6 a7 a8 a9 a10 a11 a12 a13 a14 a15 a16 a17 0 0 0 0 0 0) (rk152 L R 3 N)) = (
    N { tm := [AV.agg [vI a0, vI a1, vI a2, vI a3, vI a4, vI a5, vI a6, vI a7, vI a8, vI a9, vI a10, vI a11, vI a12, vI a13, vI a14, vI a15, vI a16, vI a17, vI a18, vI a19, vI a20, vI a21, vI a22, vI a23], AV.ptr 0 0, AV.ptr 1 0, AV.ptr 2 0, vI 7, vJ, vJ, vJ, vJ, vJ, vJ, vJ, vJ, vJ, vJ, vU], ob := [(0, AO.box [vI a0, vI a1, vI a2, vI a3, vI a4, vI a5, vI a6, vI a7, vI a8, vI a9, vI a10, vI a11, vI a12, vI a13, vI a14, vI a15, vI a16, vI a17, vI a18, vI a19, vI a20, vI a21, vI a22, vI a23]), (1, AO.box [vI 0, vI 0, vI 0, vI 0, vI 0, vI 0, vI 0, vI 0, vI 0, vI 0, vI 0, vI 0, vI 0, vI 0, vI 0, vI 0, vI 0, vI 0, vI 0, vI 0, vI 0, vI 0, vI 0, vI 0]), (2, AO.box [vI a0, vI a1, vI a2, vI a3, vI a4, vI a5, vI a6, vI a7, vI a8, vI a9, vI a10, vI a11, vI a12, vI a13, vI a14, vI a15, vI a16, vI a17, vI a18, vI a19, vI a20, vI 0, vI 0, vI 0])], nx := 1000000, ps := [] }) := by kernel_rfl
theorem b152_7 (L : Lp) (R : Option Res → Prop) (N : St → Prop) (a0 : Int) (a1 : Int) (a2 : Int) (a3 : Int) (a4 : Int) (a5 : Int) (a6 : Int) (a7 : Int) (a8 : Int) (a9 : Int) (a10 : Int) (a11 : Int) (a12 : Int) (a13 : Int) (a14 : Int) (a15 : Int) (a16 : Int) (a17 : Int) (a18 : Int) (a19 : Int) (a20 : Int) (a21 : Int) (a22 : Int) (a23 : Int) : (evP E152 G152 L (lp152 3) (st152 a0 a1 a2 a3 a4 a5 a6 a7 a8 a9 a10 a11 a12 a13 a14 a15 a16 a17 a18 a19 a20 a21 a22 a23 7 a0 a1 a2 a3 a4 a5 a6 a7 a8 a9 a10 a11 a12 a13 a14 a15 a16 a17 a18 a19 a20 0 0 0) (rk152 L R 3 N)) = (
    N { tm := [AV.agg [vI a0, vI a1, vI a2, vI a3, vI a4, vI a5, vI a6, vI a7, vI a8, vI a9, vI a10, vI a11, vI a12, vI a13, vI a14, vI a15, vI a16, vI a17, vI a18, vI a19, vI a20, vI a21, vI a22, vI a23], AV.ptr 0 0, AV.ptr 1 0, AV.ptr 2 0, vI 8, vJ, vJ, vJ, vJ, vJ, vJ, vJ, vJ, vJ, vJ, vU], ob := [(0, AO.box [vI a0, vI a1, vI a2, vI a3, vI a4, vI a5, vI a6, vI a7, vI a8, vI a9, vI a10, vI a11, vI a12, vI a13, vI a14, vI a15, vI a16, vI a17, vI a18, vI a19, vI a20, vI a21, vI a22, vI a23]), (1, AO.box [vI 0, vI 0, vI 0, vI 0, vI 0, vI 0, vI 0, vI 0, vI 0, vI 0, vI 0, vI 0, vI 0, vI 0, vI 0, vI 0, vI 0, vI 0, vI 0, vI 0, vI 0, vI 0, vI 0, vI 0]), (2, AO.box [vI a0, vI a1, vI a2, vI a3, vI a4, vI a5, vI a6, vI a7, vI a8, vI a9, vI a10, vI a11, vI a12, vI a13, vI a14, vI a15, vI a16, vI a17, vI a18, vI a19, vI a20, vI a21, vI a22, vI a23])], nx := 1000000, ps := [] }) := by kernel_rfl
theorem b152_8 (L : Lp) (R : Option Res → Prop) (N : St → Prop) (a0 : Int) (a1 : Int) (a2 : Int) (a3 : Int) (a4 : Int) (a5 : Int) (a6 : Int) (a7 : Int) (a8 : Int) (a9 : Int) (a10 : Int) (a11 : Int) (a12 : Int) (a13 : Int) (a14 : Int) (a15 : Int) (a16 : Int) (a17 : Int) (a18 : Int) (a19 : Int) (a20 : Int) (a21 : Int) (a22 : Int) (a23 : Int) : (evP E152 G152 L (lp152 3) (st152 a0 a1 a2 a3 a4 a5 a6 a7 a8 a9 a10 a11 a12 a13 a14 a15 a16 a17 a18 a19 a20 a21 a22 a23 8 a0 a1 a2 a3 a4 a5 a6 a7 a8 a9 a10 a11 a12 a13 a14 a15 a16 a17 a18 a19 a20 a21 a22 a23) (rk152 L R 3 N)) = (
    R (some { av := AV.agg [vI a0, vI a1, vI a2, vI a3, vI a4, vI a5, vI a6, vI a7, vI a8, vI a9, vI a10, vI a11, vI a12, vI a13, vI a14, vI a15, vI a16, vI a17, vI a18, vI a19, vI a20, vI a21, vI a22, vI a23], obs := [], outs := [] })) := by kernel_rfl
def sq152 (a0 : Int) (a1 : Int) (a2 : Int) (a3 : Int) (a4 : Int) (a5 : Int) (a6 : Int) (a7 : Int) (a8 : Int) (a9 : Int) (a10 : Int) (a11 : Int) (a12 : Int) (a13 : Int) (a14 : Int) (a15 : Int) (a16 : Int) (a17 : Int) (a18 : Int) (a19 : Int) (a20 : Int) (a21 : Int) (a22 : Int) (a23 : Int) : Nat → St
  | 0 => st152 a0 a1 a2 a3 a4 a5 a6 a7 a8 a9 a10 a11 a12 a13 a14 a15 a16 a17 a18 a19 a20 a21 a22 a23 0 0 0 0 0 0 0 0 0 0 0 0 0 0 0 0 0 0 0 0 0 0 0 0 0
  | 1 => st152 a0 a1 a2 a3 a4 a5 a6 a7 a8 a9 a10 a11 a12 a13 a14 a15 a16 a17 a18 a19 a20 a21 a22 a23 1 a0 a1 a2 0 0 0 0 0 0 0 0 0 0 0 0 0 0 0 0 0 0 0 0 0
  | 2 => st152 a0 a1 a2 a3 a4 a5 a6 a7 a8 a9 a10 a11 a12 a13 a14 a15 a16 a17 a18 a19 a20 a21 a22 a23 2 a0 a1 a2 a3 a4 a5 0 0 0 0 0 0 0 0 0 0 0 0 0 0 0 0 0 0
  | 3 => st152 a0 a1 a2 a3 a4 a5 a6 a7 a8 a9 a10 a11 a12 a13 a14 a15 a16 a17 a18 a19 a20 a21 a22 a23 3 a0 a1 a2 a3 a4 a5 a6 a7 a8 0 0 0 0 0 0 0 0 0 0 0 0 0 0 0
  | 4 => st152 a0 a1 a2 a3 a4 a5 a6 a7 a8 a9 a10 a11 a12 a13 a14 a15 a16 a17 a18 a19 a20 a21 a22 a23 4 a0 a1 a2 a3 a4 a5 a6 a7 a8 a9 a10 a11 0 0 0 0 0 0 0 0 0 0 0 0
  | 5 => st152 a0 a1 a2 a3 a4 a5 a6 a7 a8 a9 a10 a11 a12 a13 a14 a15 a16 a17 a18 a19 a20 a21 a22 a23 5 a0 a1 a2 a3 a4 a5 a6 a7 a8 a9 a10 a11 a12 a13 a14 0 0 0 0 0 0 0 0 0
  | 6 => st152 a0 a1 a2 a3 a4 a5 a6 a7 a8 a9 a10 a11 a12 a13 a14 a15 a16 a17 a18 a19 a20 a21 a22 a23 6 a0 a1 a2 a3 a4 a5 a6 a7 a8 a9 a10 a11 a12 a13 a14 a15 a16 a17 0 0 0 0 0 0
  | 7 => st152 a0 a1 a2 a3 a4 a5 a6 a7 a8 a9 a10 a11 a12 a13 a14 a15 a16 a17 a18 a19 a20 a21 a22 a23 7 a0 a1 a2 a3 a4 a5 a6 a7 a8 a9 a10 a11 a12 a13 a14 a15 a16 a17 a18 a19 a20 0 0 0
  | _ => st152 a0 a1 a2 a3 a4 a5 a6 a7 a8 a9 a10 a11 a12 a13 a14 a15 a16 a17 a18 a19 a20 a21 a22 a23 8 a0 a1 a2 a3 a4 a5 a6 a7 a8 a9 a10 a11 a12 a13 a14 a15 a16 a17 a18 a19 a20 a21 a22 a23
theorem h152 : G1Ok Tryd.prog 152 g152 := by
  intro args obs k h
  unfold g152 at h
  split at h
  · rename_i k us
    split at h
    rotate_left
    · exact h.elim
    rename_i a ha
    obtain rfl := elemOf_inv ha
    obtain ⟨a0, a1, a2, a3, a4, a5, a6, a7, a8, a9, a10, a11, a12, a13, a14, a15, a16, a17, a18, a19, a20, a21, a22, a23, ⟨⟩⟩ := a
    refine ⟨_, ctr_fn ok0 hg152 Tryd.func152 (by kernel_rfl) (by kernel_rfl) (by kernel_rfl) fun C => ?_, h⟩
    show bodyP E0 G152 _ Tryd.f152 [.agg [.val (.int .i64 a0), .val (.int .i64 a1), .val (.int .i64 a2), .val (.int .i64 a3), .val (.int .i64 a4), .val (.int .i64 a5), .val (.int .i64 a6), .val (.int .i64 a7), .val (.int .i64 a8), .val (.int .i64 a9), .val (.int .i64 a10), .val (.int .i64 a11), .val (.int .i64 a12), .val (.int .i64 a13), .val (.int .i64 a14), .val (.int .i64 a15), .val (.int .i64 a16), .val (.int .i64 a17), .val (.int .i64 a18), .val (.int .i64 a19), .val (.int .i64 a20), .val (.int .i64 a21), .val (.int .i64 a22), .val (.int .i64 a23)]] [] _
    rw [e152]
    refine loopSeq okf152 hg152 (sq152 a0 a1 a2 a3 a4 a5 a6 a7 a8 a9 a10 a11 a12 a13 a14 a15 a16 a17 a18 a19 a20 a21 a22 a23) 8 (fun N i hi next => ?_) (fun N => ?_)
    · have cs : i = 0 ∨ i = 1 ∨ i = 2 ∨ i = 3 ∨ i = 4 ∨ i = 5 ∨ i = 6 ∨ i = 7 := by omega
      rcases cs with rfl | rfl | rfl | rfl | rfl | rfl | rfl | rfl
      · show evP E152 G152 _ (lp152 3) (st152 a0 a1 a2 a3 a4 a5 a6 a7 a8 a9 a10 a11 a12 a13 a14 a15 a16 a17 a18 a19 a20 a21 a22 a23 0 0 0 0 0 0 0 0 0 0 0 0 0 0 0 0 0 0 0 0 0 0 0 0 0) (rk152 _ _ 3 _)
        rw [b152_0]
        exact next
      · show evP E152 G152 _ (lp152 3) (st152 a0 a1 a2 a3 a4 a5 a6 a7 a8 a9 a10 a11 a12 a13 a14 a15 a16 a17 a18 a19 a20 a21 a22 a23 1 a0 a1 a2 0 0 0 0 0 0 0 0 0 0 0 0 0 0 0 0 0 0 0 0 0) (rk152 _ _ 3 _)
        rw [b152_1]
        exact next
      · show evP E152 G152 _ (lp152 3) (st152 a0 a1 a2 a3 a4 a5 a6 a7 a8 a9 a10 a11 a12 a13 a14 a15 a16 a17 a18 a19 a20 a21 a22 a23 2 a0 a1 a2 a3 a4 a5 0 0 0 0 0 0 0 0 0 0 0 0 0 0 0 0 0 0) (rk152 _ _ 3 _)
        rw [b152_2]
        exact next
      · show evP E152 G152 _ (lp152 3) (st152 a0 a1 a2 a3 a4 a5 a6 a7 a8 a9 a10 a11 a12 a13 a14 a15 a16 a17 a18 a19 a20 a21 a22 a23 3 a0 a1 a2 a3 a4 a5 a6 a7 a8 0 0 0 0 0 0 0 0 0 0 0 0 0 0 0) (rk152 _ _ 3 _)
        rw [b152_3]
        exact next
      · show evP E152 G152 _ (lp152 3) (st152 a0 a1 a2 a3 a4 a5 a6 a7 a8 a9 a10 a11 a12 a13 a14 a15 a16 a17 a18 a19 a20 a21 a22 a23 4 a0 a1 a2 a3 a4 a5 a6 a7 a8 a9 a10 a11 0 0 0 0 0 0 0 0 0 0 0 0) (rk152 _ _ 3 _)
        rw [b152_4]
        exact next
      · show evP E152 G152 _ (lp152 3) (st152 a0 a1 a2 a3 a4 a5 a6 a7 a8 a9 a10 a11 a12 a13 a14 a15 a16 a17 a18 a19 a20 a21 a22 a23 5 a0 a1 a2 a3 a4 a5 a6 a7 a8 a9 a10 a11 a12 a13 a14 0 0 0 0 0 0 0 0 0) (rk152 _ _ 3 _)
        rw [b152_5]
        exact next
      · show evP E152 G152 _ (lp152 3) (st152 a0 a1 a2 a3 a4 a5 a6 a7 a8 a9 a10 a11 a12 a13 a14 a15 a16 a17 a18 a19 a20 a21 a22 a23 6 a0 a1 a2 a3 a4 a5 a6 a7 a8 a9 a10 a11 a12 a13 a14 a15 a16 a17 0 0 0 0 0 0) (rk152 _ _ 3 _)
        rw [b152_6]
        exact next
      · show evP E152 G152 _ (lp152 3) (st152 a0 a1 a2 a3 a4 a5 a6 a7 a8 a9 a10 a11 a12 a13 a14 a15 a16 a17 a18 a19 a20 a21 a22 a23 7 a0 a1 a2 a3 a4 a5 a6 a7 a8 a9 a10 a11 a12 a13 a14 a15 a16 a17 a18 a19 a20 0 0 0) (rk152 _ _ 3 _)
        rw [b152_7]
        exact next
    · show evP E152 G152 _ (lp152 3) (st152 a0 a1 a2 a3 a4 a5 a6 a7 a8 a9 a10 a11 a12 a13 a14 a15 a16 a17 a18 a19 a20 a21 a22 a23 8 a0 a1 a2 a3 a4 a5 a6 a7 a8 a9 a10 a11 a12 a13 a14 a15 a16 a17 a18 a19 a20 a21 a22 a23) (rk152 _ _ 3 _)
      rw [b152_8]
      rfl
  · exact h.elim
abbrev k24 : List CK := [.int .i64, .int .i64, .int .i64, .int .i64, .int .i64, .int .i64, .int .i64, .int .i64, .int .i64, .int .i64, .int .i64, .int .i64, .int .i64, .int .i64, .int .i64, .int .i64, .int .i64, .int .i64, .int .i64, .int .i64, .int .i64, .int .i64, .int .i64, .int .i64]
def ps8 (a : Elem k24) : List (Elem k3) := [(a.1, a.2.1, a.2.2.1, ()), (a.2.2.2.1, a.2.2.2.2.1, a.2.2.2.2.2.1, ()), (a.2.2.2.2.2.2.1, a.2.2.2.2.2.2.2.1, a.2.2.2.2.2.2.2.2.1, ()), (a.2.2.2.2.2.2.2.2.2.1, a.2.2.2.2.2.2.2.2.2.2.1, a.2.2.2.2.2.2.2.2.2.2.2.1, ()), (a.2.2.2.2.2.2.2.2.2.2.2.2.1, a.2.2.2.2.2.2.2.2.2.2.2.2.2.1, a.2.2.2.2.2.2.2.2.2.2.2.2.2.2.1, ()), (a.2.2.2.2.2.2.2.2.2.2.2.2.2.2.2.1, a.2.2.2.2.2.2.2.2.2.2.2.2.2.2.2.2.1, a.2.2.2.2.2.2.2.2.2.2.2.2.2.2.2.2.2.1, ()), (a.2.2.2.2.2.2.2.2.2.2.2.2.2.2.2.2.2.2.1, a.2.2.2.2.2.2.2.2.2.2.2.2.2.2.2.2.2.2.2.1, a.2.2.2.2.2.2.2.2.2.2.2.2.2.2.2.2.2.2.2.2.1, ()), (a.2.2.2.2.2.2.2.2.2.2.2.2.2.2.2.2.2.2.2.2.2.1, a.2.2.2.2.2.2.2.2.2.2.2.2.2.2.2.2.2.2.2.2.2.2.1, a.2.2.2.2.2.2.2.2.2.2.2.2.2.2.2.2.2.2.2.2.2.2.2.1, ())]
def pT (e : Elem k3) : ByteArray := ptrT e.1 e.2.1 e.2.2.1
def pTs (ps : List (Elem k3)) : List (Elem ks) := ps.map fun e => (pT e, ())
def mapT (ps : List (Elem k3)) : ByteArray := match allB 8 fun j => pOk (ps.getD j (edflt k3)) with
  | true => joinT (pTs ps) ⟨#[32]⟩
  | false => ByteArray.empty
def g94 : G1
  | [.agg us], [], k => match elemOf k24 us with
    | some a => k ⟨.val (.string (mapT (ps8 a))), [], []⟩
    | none => False
  | _, _, _ => False
theorem pTs_next (ps : List (Elem k3)) {i : Nat} (hi : i < ps.length) : (pTs ps).take (i + 1) = (pTs ps).take i ++ [(pT (ps.getD i (edflt k3)), ())] := by
  have hx : (pTs ps)[i]? = some (pT (ps.getD i (edflt k3)), ()) := by
    unfold pTs
    rw [List.getElem?_map, List.getD_eq_getElem?_getD, List.getElem?_eq_getElem hi]
    rfl
  rw [List.take_add_one, hx]
  rfl
theorem take_ne (ps : List (Elem k3)) {i : Nat} (hi : i < ps.length) (h0 : 0 < i) : (pTs ps).take i ≠ [] := by
  intro e
  have := congrArg List.length e
  rw [List.length_take, List.length_nil] at this
  have hl : (pTs ps).length = ps.length := by simp [pTs]
  omega
noncomputable def E94 : Env := E0.of Tryd.f94
noncomputable def G94 : Gk := gk [(53, g120), (79, g79)]
noncomputable def lp94 (n : Nat) : Code := (loopOf n (codeOf Tryd.f94)).getD .skip
noncomputable def ct94 (L : Lp) (R : Option Res → Prop) (n : Nat) : Kt := contOf E94 G94 L n (codeOf Tryd.f94) (endK E94 Tryd.f94.results.toList R)
noncomputable def rk94 (L : Lp) (R : Option Res → Prop) (n : Nat) (N : St → Prop) : Kt := rk (jof E94 (lp94 n)) N (ct94 L R n)
noncomputable def rkn94 (L : Lp) (R : Option Res → Prop) (n : Nat) (N : St → Prop) (m : Nat) (N2 : St → Prop) : Kt := rk (jof E94 (lp94 m)) N2 (contOf E94 G94 L m (lp94 n) (rk94 L R n N))
noncomputable def LOOPN94 (L : Lp) (R : Option Res → Prop) (n : Nat) (N : St → Prop) (m : Nat) (st : St) : Prop := L (lp94 m) st (contOf E94 G94 L m (lp94 n) (rk94 L R n N))
noncomputable def LOOP94 (L : Lp) (R : Option Res → Prop) (n : Nat) (st : St) : Prop := L (lp94 n) st (ct94 L R n)
theorem hg94 : HG Tryd.prog G94 := (hg_cons h53 (hg_cons h79 hg_nil))
theorem okf94 : Ok Tryd.prog E94 := ok0.of Tryd.f94
theorem e94 (L : Lp) (R : Option Res → Prop) (a0 a1 a2 a3 a4 a5 a6 a7 a8 a9 a10 a11 a12 a13 a14 a15 a16 a17 a18 a19 a20 a21 a22 a23 : Int) : (bodyP E0 G94 L Tryd.f94 [.agg [.val (.int .i64 a0), .val (.int .i64 a1), .val (.int .i64 a2), .val (.int .i64 a3), .val (.int .i64 a4), .val (.int .i64 a5), .val (.int .i64 a6), .val (.int .i64 a7), .val (.int .i64 a8), .val (.int .i64 a9), .val (.int .i64 a10), .val (.int .i64 a11), .val (.int .i64 a12), .val (.int .i64 a13), .val (.int .i64 a14), .val (.int .i64 a15), .val (.int .i64 a16), .val (.int .i64 a17), .val (.int .i64 a18), .val (.int .i64 a19), .val (.int .i64 a20), .val (.int .i64 a21), .val (.int .i64 a22), .val (.int .i64 a23)]] [] R) = (
    LOOP94 L R 3 { tm := [AV.agg [vI a0, vI a1, vI a2, vI a3, vI a4, vI a5, vI a6, vI a7, vI a8, vI a9, vI a10, vI a11, vI a12, vI a13, vI a14, vI a15, vI a16, vI a17, vI a18, vI a19, vI a20, vI a21, vI a22, vI a23], AV.ptr 0 0, vS { data := #[] }, vS { data := #[] }, vI 0, vJ, vJ, vJ, vJ, vJ, vJ, vJ, vJ, vJ, vJ, vJ, vJ, vJ, vJ, vJ, vJ, vJ, vJ, vJ, vU], ob := [(0, AO.box [vI a0, vI a1, vI a2, vI a3, vI a4, vI a5, vI a6, vI a7, vI a8, vI a9, vI a10, vI a11, vI a12, vI a13, vI a14, vI a15, vI a16, vI a17, vI a18, vI a19, vI a20, vI a21, vI a22, vI a23])], nx := 1000000, ps := [] }) := by kernel_rfl
def st94 (a0 a1 a2 a3 a4 a5 a6 a7 a8 a9 a10 a11 a12 a13 a14 a15 a16 a17 a18 a19 a20 a21 a22 a23 : Int) (o : ByteArray) (i : Int) : St :=  ⟨[AV.agg [vI a0, vI a1, vI a2, vI a3, vI a4, vI a5, vI a6, vI a7, vI a8, vI a9, vI a10, vI a11, vI a12, vI a13, vI a14, vI a15, vI a16, vI a17, vI a18, vI a19, vI a20, vI a21, vI a22, vI a23], AV.ptr 0 0, vS { data := #[] }, .val (.string o), .val (.int .i64 i), vJ, vJ, vJ, vJ, vJ, vJ, vJ, vJ, vJ, vJ, vJ, vJ, vJ, vJ, vJ, vJ, vJ, vJ, vJ, vU], [(0, AO.box [vI a0, vI a1, vI a2, vI a3, vI a4, vI a5, vI a6, vI a7, vI a8, vI a9, vI a10, vI a11, vI a12, vI a13, vI a14, vI a15, vI a16, vI a17, vI a18, vI a19, vI a20, vI a21, vI a22, vI a23])], 1000000, []⟩
theorem b94_0 (L : Lp) (R : Option Res → Prop) (N : St → Prop) (a0 a1 a2 a3 a4 a5 a6 a7 a8 a9 a10 a11 a12 a13 a14 a15 a16 a17 a18 a19 a20 a21 a22 a23 : Int) (o : ByteArray) : (evP E94 G94 L (lp94 3) (st94 a0 a1 a2 a3 a4 a5 a6 a7 a8 a9 a10 a11 a12 a13 a14 a15 a16 a17 a18 a19 a20 a21 a22 a23 o 0) (rk94 L R 3 N)) = (
    br (!ptrOk a0 a1 a2) (R (some { av := vS { data := #[] }, obs := [], outs := [] })) (br (decide (o.size + (ptrT a0 a1 a2).size ≤ 9223372036854775807)) (N { tm := [AV.agg [vI a0, vI a1, vI a2, vI a3, vI a4, vI a5, vI a6, vI a7, vI a8, vI a9, vI a10, vI a11, vI a12, vI a13, vI a14, vI a15, vI a16, vI a17, vI a18, vI a19, vI a20, vI a21, vI a22, vI a23], AV.ptr 0 0, vS { data := #[] }, vS (o ++ ptrT a0 a1 a2), vI 1, vJ, vJ, vJ, vJ, vJ, vJ, vJ, vJ, vJ, vJ, vJ, vJ, vJ, vJ, vJ, vJ, vJ, vJ, vJ, vU], ob := [(0, AO.box [vI a0, vI a1, vI a2, vI a3, vI a4, vI a5, vI a6, vI a7, vI a8, vI a9, vI a10, vI a11, vI a12, vI a13, vI a14, vI a15, vI a16, vI a17, vI a18, vI a19, vI a20, vI a21, vI a22, vI a23])], nx := 1000000, ps := [] }) False)) := by kernel_rfl
theorem b94_1 (L : Lp) (R : Option Res → Prop) (N : St → Prop) (a0 a1 a2 a3 a4 a5 a6 a7 a8 a9 a10 a11 a12 a13 a14 a15 a16 a17 a18 a19 a20 a21 a22 a23 : Int) (o : ByteArray) : (evP E94 G94 L (lp94 3) (st94 a0 a1 a2 a3 a4 a5 a6 a7 a8 a9 a10 a11 a12 a13 a14 a15 a16 a17 a18 a19 a20 a21 a22 a23 o 1) (rk94 L R 3 N)) = (
    br (!ptrOk a3 a4 a5) (R (some { av := vS { data := #[] }, obs := [], outs := [] })) (br (decide (o.size + 1 ≤ 9223372036854775807)) (br (decide ((o ++ { data := #[32] }).size + (ptrT a3 a4 a5).size ≤ 9223372036854775807)) (N { tm := [AV.agg [vI a0, vI a1, vI a2, vI a3, vI a4, vI a5, vI a6, vI a7, vI a8, vI a9, vI a10, vI a11, vI a12, vI a13, vI a14, vI a15, vI a16, vI a17, vI a18, vI a19, vI a20, vI a21, vI a22, vI a23], AV.ptr 0 0, vS { data := #[] }, vS (o ++ { data := #[32] } ++ ptrT a3 a4 a5), vI 2, vJ, vJ, vJ, vJ, vJ, vJ, vJ, vJ, vJ, vJ, vJ, vJ, vJ, vJ, vJ, vJ, vJ, vJ, vJ, vU], ob := [(0, AO.box [vI a0, vI a1, vI a2, vI a3, vI a4, vI a5, vI a6, vI a7, vI a8, vI a9, vI a10, vI a11, vI a12, vI a13, vI a14, vI a15, vI a16, vI a17, vI a18, vI a19, vI a20, vI a21, vI a22, vI a23])], nx := 1000000, ps := [] }) False) False)) := by kernel_rfl
theorem b94_2 (L : Lp) (R : Option Res → Prop) (N : St → Prop) (a0 a1 a2 a3 a4 a5 a6 a7 a8 a9 a10 a11 a12 a13 a14 a15 a16 a17 a18 a19 a20 a21 a22 a23 : Int) (o : ByteArray) : (evP E94 G94 L (lp94 3) (st94 a0 a1 a2 a3 a4 a5 a6 a7 a8 a9 a10 a11 a12 a13 a14 a15 a16 a17 a18 a19 a20 a21 a22 a23 o 2) (rk94 L R 3 N)) = (
    br (!ptrOk a6 a7 a8) (R (some { av := vS { data := #[] }, obs := [], outs := [] })) (br (decide (o.size + 1 ≤ 9223372036854775807)) (br (decide ((o ++ { data := #[32] }).size + (ptrT a6 a7 a8).size ≤ 9223372036854775807)) (N { tm := [AV.agg [vI a0, vI a1, vI a2, vI a3, vI a4, vI a5, vI a6, vI a7, vI a8, vI a9, vI a10, vI a11, vI a12, vI a13, vI a14, vI a15, vI a16, vI a17, vI a18, vI a19, vI a20, vI a21, vI a22, vI a23], AV.ptr 0 0, vS { data := #[] }, vS (o ++ { data := #[32] } ++ ptrT a6 a7 a8), vI 3, vJ, vJ, vJ, vJ, vJ, vJ, vJ, vJ, vJ, vJ, vJ, vJ, vJ, vJ, vJ, vJ, vJ, vJ, vJ, vU], ob := [(0, AO.box [vI a0, vI a1, vI a2, vI a3, vI a4, vI a5, vI a6, vI a7, vI a8, vI a9, vI a10, vI a11, vI a12, vI a13, vI a14, vI a15, vI a16, vI a17, vI a18, vI a19, vI a20, vI a21, vI a22, vI a23])], nx := 1000000, ps := [] }) False) False)) := by kernel_rfl
theorem b94_3 (L : Lp) (R : Option Res → Prop) (N : St → Prop) (a0 a1 a2 a3 a4 a5 a6 a7 a8 a9 a10 a11 a12 a13 a14 a15 a16 a17 a18 a19 a20 a21 a22 a23 : Int) (o : ByteArray) : (evP E94 G94 L (lp94 3) (st94 a0 a1 a2 a3 a4 a5 a6 a7 a8 a9 a10 a11 a12 a13 a14 a15 a16 a17 a18 a19 a20 a21 a22 a23 o 3) (rk94 L R 3 N)) = (
    br (!ptrOk a9 a10 a11) (R (some { av := vS { data := #[] }, obs := [], outs := [] })) (br (decide (o.size + 1 ≤ 9223372036854775807)) (br (decide ((o ++ { data := #[32] }).size + (ptrT a9 a10 a11).size ≤ 9223372036854775807)) (N { tm := [AV.agg [vI a0, vI a1, vI a2, vI a3, vI a4, vI a5, vI a6, vI a7, vI a8, vI a9, vI a10, vI a11, vI a12, vI a13, vI a14, vI a15, vI a16, vI a17, vI a18, vI a19, vI a20, vI a21, vI a22, vI a23], AV.ptr 0 0, vS { data := #[] }, vS (o ++ { data := #[32] } ++ ptrT a9 a10 a11), vI 4, vJ, vJ, vJ, vJ, vJ, vJ, vJ, vJ, vJ, vJ, vJ, vJ, vJ, vJ, vJ, vJ, vJ, vJ, vJ, vU], ob := [(0, AO.box [vI a0, vI a1, vI a2, vI a3, vI a4, vI a5, vI a6, vI a7, vI a8, vI a9, vI a10, vI a11, vI a12, vI a13, vI a14, vI a15, vI a16, vI a17, vI a18, vI a19, vI a20, vI a21, vI a22, vI a23])], nx := 1000000, ps := [] }) False) False)) := by kernel_rfl
theorem b94_4 (L : Lp) (R : Option Res → Prop) (N : St → Prop) (a0 a1 a2 a3 a4 a5 a6 a7 a8 a9 a10 a11 a12 a13 a14 a15 a16 a17 a18 a19 a20 a21 a22 a23 : Int) (o : ByteArray) : (evP E94 G94 L (lp94 3) (st94 a0 a1 a2 a3 a4 a5 a6 a7 a8 a9 a10 a11 a12 a13 a14 a15 a16 a17 a18 a19 a20 a21 a22 a23 o 4) (rk94 L R 3 N)) = (
    br (!ptrOk a12 a13 a14) (R (some { av := vS { data := #[] }, obs := [], outs := [] })) (br (decide (o.size + 1 ≤ 9223372036854775807)) (br (decide ((o ++ { data := #[32] }).size + (ptrT a12 a13 a14).size ≤ 9223372036854775807)) (N { tm := [AV.agg [vI a0, vI a1, vI a2, vI a3, vI a4, vI a5, vI a6, vI a7, vI a8, vI a9, vI a10, vI a11, vI a12, vI a13, vI a14, vI a15, vI a16, vI a17, vI a18, vI a19, vI a20, vI a21, vI a22, vI a23], AV.ptr 0 0, vS { data := #[] }, vS (o ++ { data := #[32] } ++ ptrT a12 a13 a14), vI 5, vJ, vJ, vJ, vJ, vJ, vJ, vJ, vJ, vJ, vJ, vJ, vJ, vJ, vJ, vJ, vJ, vJ, vJ, vJ, vU], ob := [(0, AO.box [vI a0, vI a1, vI a2, vI a3, vI a4, vI a5, vI a6, vI a7, vI a8, vI a9, vI a10, vI a11, vI a12, vI a13, vI a14, vI a15, vI a16, vI a17, vI a18, vI a19, vI a20, vI a21, vI a22, vI a23])], nx := 1000000, ps := [] }) False) False)) := by kernel_rfl
theorem b94_5 (L : Lp) (R : Option Res → Prop) (N : St → Prop) (a0 a1 a2 a3 a4 a5 a6 a7 a8 a9 a10 a11 a12 a13 a14 a15 a16 a17 a18 a19 a20 a21 a22 a23 : Int) (o : ByteArray) : (evP E94 G94 L (lp94 3) (st94 a0 a1 a2 a3 a4 a5 a6 a7 a8 a9 a10 a11 a12 a13 a14 a15 a16 a17 a18 a19 a20 a21 a22 a23 o 5) (rk94 L R 3 N)) = (
    br (!ptrOk a15 a16 a17) (R (some { av := vS { data := #[] }, obs := [], outs := [] })) (br (decide (o.size + 1 ≤ 9223372036854775807)) (br (decide ((o ++ { data := #[32] }).size + (ptrT a15 a16 a17).size ≤ 9223372036854775807)) (N { tm := [AV.agg [vI a0, vI a1, vI a2, vI a3, vI a4, vI a5, vI a6, vI a7, vI a8, vI a9, vI a10, vI a11, vI a12, vI a13, vI a14, vI a15, vI a16, vI a17, vI a18, vI a19, vI a20, vI a21, vI a22, vI a23], AV.ptr 0 0, vS { data := #[] }, vS (o ++ { data := #[32] } ++ ptrT a15 a16 a17), vI 6, vJ, vJ, vJ, vJ, vJ, vJ, vJ, vJ, vJ, vJ, vJ, vJ, vJ, vJ, vJ, vJ, vJ, vJ, vJ, vU], ob := [(0, AO.box [vI a0, vI a1, vI a2, vI a3, vI a4, vI a5, vI a6, vI a7, vI a8, vI a9, vI a10, vI a11, vI a12, vI a13, vI a14, vI a15, vI a16, vI a17, vI a18, vI a19, vI a20, vI a21, vI a22, vI a23])], nx := 1000000, ps := [] }) False) False)) := by kernel_rfl
theorem b94_6 (L : Lp) (R : Option Res → Prop) (N : St → Prop) (a0 a1 a2 a3 a4 a5 a6 a7 a8 a9 a10 a11 a12 a13 a14 a15 a16 a17 a18 a19 a20 a21 a22 a23 : Int) (o : ByteArray) : (evP E94 G94 L (lp94 3) (st94 a0 a1 a2 a3 a4 a5 a6 a7 a8 a9 a10 a11 a12 a13 a14 a15 a16 a17 a18 a19 a20 a21 a22 a23 o 6) (rk94 L R 3 N)) = (
    br (!ptrOk a18 a19 a20) (R (some { av := vS { data := #[] }, obs := [], outs := [] })) (br (decide (o.size + 1 ≤ 9223372036854775807)) (br (decide ((o ++ { data := #[32] }).size + (ptrT a18 a19 a20).size ≤ 9223372036854775807)) (N { tm := [AV.agg [vI a0, vI a1, vI a2, vI a3, vI a4, vI a5, vI a6, vI a7, vI a8, vI a9, vI a10, vI a11, vI a12, vI a13, vI a14, vI a15, vI a16, vI a17, vI a18, vI a19, vI a20, vI a21, vI a22, vI a23], AV.ptr 0 0, vS { data := #[] }, vS (o ++ { data := #[32] } ++ ptrT a18 a19 a20), vI 7, vJ, vJ, vJ, vJ, vJ, vJ, vJ, vJ, vJ, vJ, vJ, vJ, vJ, vJ, vJ, vJ, vJ, vJ, vJ, vU], ob := [(0, AO.box [vI a0, vI a1, vI a2, vI a3, vI a4, vI a5, vI a6, vI a7, vI a8, vI a9, vI a10, vI a11, vI a12, vI a13, vI a14, vI a15, vI a16, vI a17, vI a18, vI a19, vI a20, vI a21, vI a22, vI a23])], nx := 1000000, ps := [] }) False) False)) := by kernel_rfl
theorem b94_7 (L : Lp) (R : Option Res → Prop) (N : St → Prop) (a0 a1 a2 a3 a4 a5 a6 a7 a8 a9 a10 a11 a12 a13 a14 a15 a16 a17 a18 a19 a20 a21 a22 a23 : Int) (o : ByteArray) : (evP E94 G94 L (lp94 3) (st94 a0 a1 a2 a3 a4 a5 a6 a7 a8 a9 a10 a11 a12 a13 a14 a15 a16 a17 a18 a19 a20 a21 a22 a23 o 7) (rk94 L R 3 N)) = (
    br (!ptrOk a21 a22 a23) (R (some { av := vS { data := #[] }, obs := [], outs := [] })) (br (decide (o.size + 1 ≤ 9223372036854775807)) (br (decide ((o ++ { data := #[32] }).size + (ptrT a21 a22 a23).size ≤ 9223372036854775807)) (N { tm := [AV.agg [vI a0, vI a1, vI a2, vI a3, vI a4, vI a5, vI a6, vI a7, vI a8, vI a9, vI a10, vI a11, vI a12, vI a13, vI a14, vI a15, vI a16, vI a17, vI a18, vI a19, vI a20, vI a21, vI a22, vI a23], AV.ptr 0 0, vS { data := #[] }, vS (o ++ { data := #[32] } ++ ptrT a21 a22 a23), vI 8, vJ, vJ, vJ, vJ, vJ, vJ, vJ, vJ, vJ, vJ, vJ, vJ, vJ, vJ, vJ, vJ, vJ, vJ, vJ, vU], ob := [(0, AO.box [vI a0, vI a1, vI a2, vI a3, vI a4, vI a5, vI a6, vI a7, vI a8, vI a9, vI a10, vI a11, vI a12, vI a13, vI a14, vI a15, vI a16, vI a17, vI a18, vI a19, vI a20, vI a21, vI a22, vI a23])], nx := 1000000, ps := [] }) False) False)) := by kernel_rfl
theorem b94_8 (L : Lp) (R : Option Res → Prop) (N : St → Prop) (a0 a1 a2 a3 a4 a5 a6 a7 a8 a9 a10 a11 a12 a13 a14 a15 a16 a17 a18 a19 a20 a21 a22 a23 : Int) (o : ByteArray) : (evP E94 G94 L (lp94 3) (st94 a0 a1 a2 a3 a4 a5 a6 a7 a8 a9 a10 a11 a12 a13 a14 a15 a16 a17 a18 a19 a20 a21 a22 a23 o 8) (rk94 L R 3 N)) = (
    R (some { av := vS o, obs := [], outs := [] })) := by kernel_rfl
theorem h94 : G1Ok Tryd.prog 94 g94 := by
  intro args obs k h
  unfold g94 at h
  split at h
  · rename_i k us
    split at h
    rotate_left
    · exact h.elim
    rename_i a ha
    obtain rfl := elemOf_inv ha
    obtain ⟨a0, a1, a2, a3, a4, a5, a6, a7, a8, a9, a10, a11, a12, a13, a14, a15, a16, a17, a18, a19, a20, a21, a22, a23, ⟨⟩⟩ := a
    refine ⟨_, ctr_fn ok0 hg94 Tryd.func94 (by kernel_rfl) (by kernel_rfl) (by kernel_rfl) fun C => ?_, h⟩
    show bodyP E0 G94 _ Tryd.f94 [.agg [.val (.int .i64 a0), .val (.int .i64 a1), .val (.int .i64 a2), .val (.int .i64 a3), .val (.int .i64 a4), .val (.int .i64 a5), .val (.int .i64 a6), .val (.int .i64 a7), .val (.int .i64 a8), .val (.int .i64 a9), .val (.int .i64 a10), .val (.int .i64 a11), .val (.int .i64 a12), .val (.int .i64 a13), .val (.int .i64 a14), .val (.int .i64 a15), .val (.int .i64 a16), .val (.int .i64 a17), .val (.int .i64 a18), .val (.int .i64 a19), .val (.int .i64 a20), .val (.int .i64 a21), .val (.int .i64 a22), .val (.int .i64 a23)]] [] _
    rw [e94]
    generalize hps : ps8 (a0, a1, a2, a3, a4, a5, a6, a7, a8, a9, a10, a11, a12, a13, a14, a15, a16, a17, a18, a19, a20, a21, a22, a23, ()) = ps
    have hlen : ps.length = 8 := by rw [← hps]; rfl
    have e24 : (⟨#[32]⟩ : ByteArray).size = 1 := rfl
    refine loopUp okf94 hg94 (fun i o => st94 a0 a1 a2 a3 a4 a5 a6 a7 a8 a9 a10 a11 a12 a13 a14 a15 a16 a17 a18 a19 a20 a21 a22 a23 o i) 8 (fun i o => o = joinT ((pTs ps).take i) ⟨#[32]⟩ ∧ o.size ≤ 2000000 * i ∧ ∀ j, j < i → pOk (ps.getD j (edflt k3)) = true) (fun N i o hi ⟨ho, hs, hall⟩ next => ?_) ⟨#[]⟩ ⟨rfl, Nat.le_refl _, fun j hj => by omega⟩
    have fails : ∀ {j}, j < 8 → pOk (ps.getD j (edflt k3)) = false → (some ⟨.val (.string ⟨#[]⟩), [], []⟩ : Option Res) = some ⟨.val (.string (mapT ps)), [], []⟩ := by
      intro j hj hf
      unfold mapT
      rw [show (allB 8 fun j => pOk (ps.getD j (edflt k3))) = false from allB_f hj hf]
      rfl
    have cs : i = 0 ∨ i = 1 ∨ i = 2 ∨ i = 3 ∨ i = 4 ∨ i = 5 ∨ i = 6 ∨ i = 7 ∨ i = 8 := by omega
    rcases cs with rfl | rfl | rfl | rfl | rfl | rfl | rfl | rfl | rfl
    · show evP E94 G94 _ (lp94 3) (st94 a0 a1 a2 a3 a4 a5 a6 a7 a8 a9 a10 a11 a12 a13 a14 a15 a16 a17 a18 a19 a20 a21 a22 a23 o 0) (rk94 _ _ 3 _)
      rw [b94_0]
      have hp : ps.getD 0 (edflt k3) = (a0, a1, a2, ()) := by rw [← hps]; rfl
      have hsz := ptrT_size a0 a1 a2
      refine br_not (fun h1 => ?_) (fun h1 => ?_)
      · exact fails (j := 0) (by omega) (by rw [hp]; exact h1)
      · have hnx := pTs_next ps (i := 0) (by omega)
        rw [hp] at hnx
        have hall' : ∀ j, j < 0 + 1 → pOk (ps.getD j (edflt k3)) = true := fun j hj => by
          by_cases e : j < 0
          · exact hall j e
          · have : j = 0 := by omega
            rw [this, hp]
            exact h1
        have ho0 : o = ⟨#[]⟩ := ho
        subst ho0
        have e0 : (⟨#[]⟩ : ByteArray) ++ ptrT a0 a1 a2 = ptrT a0 a1 a2 := ByteArray.empty_append
        refine br_yes (by have : (⟨#[]⟩ : ByteArray).size = 0 := rfl; omega) ?_
        rw [e0]
        exact next (by omega) _ ⟨by rw [hnx]; exact (joinT_one _ _).symm, by omega, hall'⟩
    · show evP E94 G94 _ (lp94 3) (st94 a0 a1 a2 a3 a4 a5 a6 a7 a8 a9 a10 a11 a12 a13 a14 a15 a16 a17 a18 a19 a20 a21 a22 a23 o 1) (rk94 _ _ 3 _)
      rw [b94_1]
      have hp : ps.getD 1 (edflt k3) = (a3, a4, a5, ()) := by rw [← hps]; rfl
      have hsz := ptrT_size a3 a4 a5
      refine br_not (fun h1 => ?_) (fun h1 => ?_)
      · exact fails (j := 1) (by omega) (by rw [hp]; exact h1)
      · have hnx := pTs_next ps (i := 1) (by omega)
        rw [hp] at hnx
        have hall' : ∀ j, j < 1 + 1 → pOk (ps.getD j (edflt k3)) = true := fun j hj => by
          by_cases e : j < 1
          · exact hall j e
          · have : j = 1 := by omega
            rw [this, hp]
            exact h1
        have hne := take_ne ps (i := 1) (by omega) (by omega)
        refine br_yes (by omega) (br_yes (by rw [ByteArray.size_append, e24]; omega) ?_)
        exact next (by omega) _ ⟨by rw [hnx, joinT_snoc _ _ _ hne, ← ho]; rfl, by rw [ByteArray.size_append, ByteArray.size_append, e24]; omega, hall'⟩
    · show evP E94 G94 _ (lp94 3) (st94 a0 a1 a2 a3 a4 a5 a6 a7 a8 a9 a10 a11 a12 a13 a14 a15 a16 a17 a18 a19 a20 a21 a22 a23 o 2) (rk94 _ _ 3 _)
      rw [b94_2]
      have hp : ps.getD 2 (edflt k3) = (a6, a7, a8, ()) := by rw [← hps]; rfl
      have hsz := ptrT_size a6 a7 a8
      refine br_not (fun h1 => ?_) (fun h1 => ?_)
      · exact fails (j := 2) (by omega) (by rw [hp]; exact h1)
      · have hnx := pTs_next ps (i := 2) (by omega)
        rw [hp] at hnx
        have hall' : ∀ j, j < 2 + 1 → pOk (ps.getD j (edflt k3)) = true := fun j hj => by
          by_cases e : j < 2
          · exact hall j e
          · have : j = 2 := by omega
            rw [this, hp]
            exact h1
        have hne := take_ne ps (i := 2) (by omega) (by omega)
        refine br_yes (by omega) (br_yes (by rw [ByteArray.size_append, e24]; omega) ?_)
        exact next (by omega) _ ⟨by rw [hnx, joinT_snoc _ _ _ hne, ← ho]; rfl, by rw [ByteArray.size_append, ByteArray.size_append, e24]; omega, hall'⟩
    · show evP E94 G94 _ (lp94 3) (st94 a0 a1 a2 a3 a4 a5 a6 a7 a8 a9 a10 a11 a12 a13 a14 a15 a16 a17 a18 a19 a20 a21 a22 a23 o 3) (rk94 _ _ 3 _)
      rw [b94_3]
      have hp : ps.getD 3 (edflt k3) = (a9, a10, a11, ()) := by rw [← hps]; rfl
      have hsz := ptrT_size a9 a10 a11
      refine br_not (fun h1 => ?_) (fun h1 => ?_)
      · exact fails (j := 3) (by omega) (by rw [hp]; exact h1)
      · have hnx := pTs_next ps (i := 3) (by omega)
        rw [hp] at hnx
        have hall' : ∀ j, j < 3 + 1 → pOk (ps.getD j (edflt k3)) = true := fun j hj => by
          by_cases e : j < 3
          · exact hall j e
          · have : j = 3 := by omega
            rw [this, hp]
            exact h1
        have hne := take_ne ps (i := 3) (by omega) (by omega)
        refine br_yes (by omega) (br_yes (by rw [ByteArray.size_append, e24]; omega) ?_)
        exact next (by omega) _ ⟨by rw [hnx, joinT_snoc _ _ _ hne, ← ho]; rfl, by rw [ByteArray.size_append, ByteArray.size_append, e24]; omega, hall'⟩
    · show evP E94 G94 _ (lp94 3) (st94 a0 a1 a2 a3 a4 a5 a6 a7 a8 a9 a10 a11 a12 a13 a14 a15 a16 a17 a18 a19 a20 a21 a22 a23 o 4) (rk94 _ _ 3 _)
      rw [b94_4]
      have hp : ps.getD 4 (edflt k3) = (a12, a13, a14, ()) := by rw [← hps]; rfl
      have hsz := ptrT_size a12 a13 a14
      refine br_not (fun h1 => ?_) (fun h1 => ?_)
      · exact fails (j := 4) (by omega) (by rw [hp]; exact h1)
      · have hnx := pTs_next ps (i := 4) (by omega)
        rw [hp] at hnx
        have hall' : ∀ j, j < 4 + 1 → pOk (ps.getD j (edflt k3)) = true := fun j hj => by
          by_cases e : j < 4
          · exact hall j e
          · have : j = 4 := by omega
            rw [this, hp]
            exact h1
        have hne := take_ne ps (i := 4) (by omega) (by omega)
        refine br_yes (by omega) (br_yes (by rw [ByteArray.size_append, e24]; omega) ?_)
        exact next (by omega) _ ⟨by rw [hnx, joinT_snoc _ _ _ hne, ← ho]; rfl, by rw [ByteArray.size_append, ByteArray.size_append, e24]; omega, hall'⟩
    · show evP E94 G94 _ (lp94 3) (st94 a0 a1 a2 a3 a4 a5 a6 a7 a8 a9 a10 a11 a12 a13 a14 a15 a16 a17 a18 a19 a20 a21 a22 a23 o 5) (rk94 _ _ 3 _)
      rw [b94_5]
      have hp : ps.getD 5 (edflt k3) = (a15, a16, a17, ()) := by rw [← hps]; rfl
      have hsz := ptrT_size a15 a16 a17
      refine br_not (fun h1 => ?_) (fun h1 => ?_)
      · exact fails (j := 5) (by omega) (by rw [hp]; exact h1)
      · have hnx := pTs_next ps (i := 5) (by omega)
        rw [hp] at hnx
        have hall' : ∀ j, j < 5 + 1 → pOk (ps.getD j (edflt k3)) = true := fun j hj => by
          by_cases e : j < 5
          · exact hall j e
          · have : j = 5 := by omega
            rw [this, hp]
            exact h1
        have hne := take_ne ps (i := 5) (by omega) (by omega)
        refine br_yes (by omega) (br_yes (by rw [ByteArray.size_append, e24]; omega) ?_)
        exact next (by omega) _ ⟨by rw [hnx, joinT_snoc _ _ _ hne, ← ho]; rfl, by rw [ByteArray.size_append, ByteArray.size_append, e24]; omega, hall'⟩
    · show evP E94 G94 _ (lp94 3) (st94 a0 a1 a2 a3 a4 a5 a6 a7 a8 a9 a10 a11 a12 a13 a14 a15 a16 a17 a18 a19 a20 a21 a22 a23 o 6) (rk94 _ _ 3 _)
      rw [b94_6]
      have hp : ps.getD 6 (edflt k3) = (a18, a19, a20, ()) := by rw [← hps]; rfl
      have hsz := ptrT_size a18 a19 a20
      refine br_not (fun h1 => ?_) (fun h1 => ?_)
      · exact fails (j := 6) (by omega) (by rw [hp]; exact h1)
      · have hnx := pTs_next ps (i := 6) (by omega)
        rw [hp] at hnx
        have hall' : ∀ j, j < 6 + 1 → pOk (ps.getD j (edflt k3)) = true := fun j hj => by
          by_cases e : j < 6
          · exact hall j e
          · have : j = 6 := by omega
            rw [this, hp]
            exact h1
        have hne := take_ne ps (i := 6) (by omega) (by omega)
        refine br_yes (by omega) (br_yes (by rw [ByteArray.size_append, e24]; omega) ?_)
        exact next (by omega) _ ⟨by rw [hnx, joinT_snoc _ _ _ hne, ← ho]; rfl, by rw [ByteArray.size_append, ByteArray.size_append, e24]; omega, hall'⟩
    · show evP E94 G94 _ (lp94 3) (st94 a0 a1 a2 a3 a4 a5 a6 a7 a8 a9 a10 a11 a12 a13 a14 a15 a16 a17 a18 a19 a20 a21 a22 a23 o 7) (rk94 _ _ 3 _)
      rw [b94_7]
      have hp : ps.getD 7 (edflt k3) = (a21, a22, a23, ()) := by rw [← hps]; rfl
      have hsz := ptrT_size a21 a22 a23
      refine br_not (fun h1 => ?_) (fun h1 => ?_)
      · exact fails (j := 7) (by omega) (by rw [hp]; exact h1)
      · have hnx := pTs_next ps (i := 7) (by omega)
        rw [hp] at hnx
        have hall' : ∀ j, j < 7 + 1 → pOk (ps.getD j (edflt k3)) = true := fun j hj => by
          by_cases e : j < 7
          · exact hall j e
          · have : j = 7 := by omega
            rw [this, hp]
            exact h1
        have hne := take_ne ps (i := 7) (by omega) (by omega)
        refine br_yes (by omega) (br_yes (by rw [ByteArray.size_append, e24]; omega) ?_)
        exact next (by omega) _ ⟨by rw [hnx, joinT_snoc _ _ _ hne, ← ho]; rfl, by rw [ByteArray.size_append, ByteArray.size_append, e24]; omega, hall'⟩
    · show evP E94 G94 _ (lp94 3) (st94 a0 a1 a2 a3 a4 a5 a6 a7 a8 a9 a10 a11 a12 a13 a14 a15 a16 a17 a18 a19 a20 a21 a22 a23 o 8) (rk94 _ _ 3 _)
      rw [b94_8]
      show _ = _
      unfold mapT
      rw [show (allB 8 fun j => pOk (ps.getD j (edflt k3))) = true from allB_t hall, ho, List.take_of_length_le (by simp [pTs]; omega)]
  · exact h.elim
end Go.Proofs.YtljilcingbohkabDoor.Ev
