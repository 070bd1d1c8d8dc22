/- Contracts for cores: equality. -/
import Derived.Test.YtkjnijddbiconaaGreatDoorC1
import Derived.Test.YtkjnijddbiconaaGreatDoorE1
import Derived.Test.YtkjnijddbiconaaGreatDoorD13
namespace Go.Proofs.YtkjnijddbiconaaGreatDoor.Ev
open Go
set_option linter.unusedVariables false
set_option linter.unusedSimpArgs false
set_option maxRecDepth 100000

def g139 : G1
  | [.agg us, .agg vs], [], k => match elemOf kc us, elemOf kc vs with
    | some a, some b => k ⟨.val (.bool (elemEq kc a b)), [], []⟩
    | _, _ => False
  | _, _, _ => False
noncomputable def G139 : Gk := gk [(141, g141), (211, g211)]
theorem hg139 : HG Tryz.prog G139 := (hg_cons h141 (hg_cons h211 hg_nil))
theorem e139 (L : Lp) (R : Option Res → Prop) (a0 : ByteArray) (a1 : Int) (a2 : ByteArray) (a3 : Int) (a4 : Int) (a5 : Int) (a6 : Int) (a7 : Int) (a8 : Int) (a9 : Int) (a10 : Int) (a11 : Int) (a12 : Int) (a13 : Int) (a14 : Int) (a15 : Int) (a16 : Int) (a17 : Int) (a18 : Int) (a19 : Int) (a20 : Int) (a21 : Int) (a22 : Int) (a23 : Int) (a24 : Int) (a25 : Int) (a26 : Int) (a27 : Int) (a28 : Int) (a29 : Int) (a30 : Bool) (y0 : ByteArray) (y1 : Int) (y2 : ByteArray) (y3 : Int) (y4 : Int) (y5 : Int) (y6 : Int) (y7 : Int) (y8 : Int) (y9 : Int) (y10 : Int) (y11 : Int) (y12 : Int) (y13 : Int) (y14 : Int) (y15 : Int) (y16 : Int) (y17 : Int) (y18 : Int) (y19 : Int) (y20 : Int) (y21 : Int) (y22 : Int) (y23 : Int) (y24 : Int) (y25 : Int) (y26 : Int) (y27 : Int) (y28 : Int) (y29 : Int) (y30 : Bool) : (bodyP E0 G139 L Tryz.f139 [.agg [.val (.string a0), .val (.int .i64 a1), .val (.string a2), .val (.int .i64 a3), .val (.int .i64 a4), .val (.int .i64 a5), .val (.int .i64 a6), .val (.int .i64 a7), .val (.int .i64 a8), .val (.int .i64 a9), .val (.int .i64 a10), .val (.int .i64 a11), .val (.int .i64 a12), .val (.int .i64 a13), .val (.int .i64 a14), .val (.int .i64 a15), .val (.int .i64 a16), .val (.int .i64 a17), .val (.int .i64 a18), .val (.int .i64 a19), .val (.int .i64 a20), .val (.int .i64 a21), .val (.int .i64 a22), .val (.int .i64 a23), .val (.int .i64 a24), .val (.int .i64 a25), .val (.int .i64 a26), .val (.int .i64 a27), .val (.int .i64 a28), .val (.int .i64 a29), .val (.bool a30)], .agg [.val (.string y0), .val (.int .i64 y1), .val (.string y2), .val (.int .i64 y3), .val (.int .i64 y4), .val (.int .i64 y5), .val (.int .i64 y6), .val (.int .i64 y7), .val (.int .i64 y8), .val (.int .i64 y9), .val (.int .i64 y10), .val (.int .i64 y11), .val (.int .i64 y12), .val (.int .i64 y13), .val (.int .i64 y14), .val (.int .i64 y15), .val (.int .i64 y16), .val (.int .i64 y17), .val (.int .i64 y18), .val (.int .i64 y19), .val (.int .i64 y20), .val (.int .i64 y21), .val (.int .i64 y22), .val (.int .i64 y23), .val (.int .i64 y24), .val (.int .i64 y25), .val (.int .i64 y26), .val (.int .i64 y27), .val (.int .i64 y28), .val (.int .i64 y29), .val (.bool y30)]] [] R) = (
    br (!strEq a0 y0) (R (some { av := vB false, obs := [], outs := [] })) (br (a1 != y1) (R (some { av := vB false, obs := [], outs := [] })) (br (!strEq a2 y2) (R (some { av := vB false, obs := [], outs := [] })) (br (!elemEq [CK.int IntKind.i64, CK.int IntKind.i64, CK.int IntKind.i64, CK.int IntKind.i64, CK.int IntKind.i64, CK.int IntKind.i64, CK.int IntKind.i64, CK.int IntKind.i64, CK.int IntKind.i64, CK.int IntKind.i64, CK.int IntKind.i64, CK.int IntKind.i64, CK.int IntKind.i64, CK.int IntKind.i64, CK.int IntKind.i64, CK.int IntKind.i64, CK.int IntKind.i64, CK.int IntKind.i64, CK.int IntKind.i64, CK.int IntKind.i64, CK.int IntKind.i64, CK.int IntKind.i64, CK.int IntKind.i64, CK.int IntKind.i64] (a3, a4, a5, a6, a7, a8, a9, a10, a11, a12, a13, a14, a15, a16, a17, a18, a19, a20, a21, a22, a23, a24, a25, a26, ()) (y3, y4, y5, y6, y7, y8, y9, y10, y11, y12, y13, y14, y15, y16, y17, y18, y19, y20, y21, y22, y23, y24, y25, y26, ())) (R (some { av := vB false, obs := [], outs := [] })) (br (!elemEq k3 (a27, a28, a29, ()) (y27, y28, y29, ())) (R (some { av := vB false, obs := [], outs := [] })) (br (!a30 == y30) (R (some { av := vB false, obs := [], outs := [] })) (R (some { av := vB true, obs := [], outs := [] })))))))) := by kernel_rfl
theorem eqCset (a0 : ByteArray) (a1 : Int) (a2 : ByteArray) (a3 : Int) (a4 : Int) (a5 : Int) (a6 : Int) (a7 : Int) (a8 : Int) (a9 : Int) (a10 : Int) (a11 : Int) (a12 : Int) (a13 : Int) (a14 : Int) (a15 : Int) (a16 : Int) (a17 : Int) (a18 : Int) (a19 : Int) (a20 : Int) (a21 : Int) (a22 : Int) (a23 : Int) (a24 : Int) (a25 : Int) (a26 : Int) (a27 : Int) (a28 : Int) (a29 : Int) (a30 : Bool) (y0 : ByteArray) (y1 : Int) (y2 : ByteArray) (y3 : Int) (y4 : Int) (y5 : Int) (y6 : Int) (y7 : Int) (y8 : Int) (y9 : Int) (y10 : Int) (y11 : Int) (y12 : Int) (y13 : Int) (y14 : Int) (y15 : Int) (y16 : Int) (y17 : Int) (y18 : Int) (y19 : Int) (y20 : Int) (y21 : Int) (y22 : Int) (y23 : Int) (y24 : Int) (y25 : Int) (y26 : Int) (y27 : Int) (y28 : Int) (y29 : Int) (y30 : Bool) : elemEq kc (a0, a1, a2, a3, a4, a5, a6, a7, a8, a9, a10, a11, a12, a13, a14, a15, a16, a17, a18, a19, a20, a21, a22, a23, a24, a25, a26, a27, a28, a29, a30, ()) (y0, y1, y2, y3, y4, y5, y6, y7, y8, y9, y10, y11, y12, y13, y14, y15, y16, y17, y18, y19, y20, y21, y22, y23, y24, y25, y26, y27, y28, y29, y30, ()) = (strEq a0 y0 && ((a1 == y1) && (strEq a2 y2 && (elemEq [.int .i64, .int .i64, .int .i64, .int .i64, .int .i64, .int .i64, .int .i64, .int .i64, .int .i64, .int .i64, .int .i64, .int .i64, .int .i64, .int .i64, .int .i64, .int .i64, .int .i64, .int .i64, .int .i64, .int .i64, .int .i64, .int .i64, .int .i64, .int .i64] (a3, a4, a5, a6, a7, a8, a9, a10, a11, a12, a13, a14, a15, a16, a17, a18, a19, a20, a21, a22, a23, a24, a25, a26, ()) (y3, y4, y5, y6, y7, y8, y9, y10, y11, y12, y13, y14, y15, y16, y17, y18, y19, y20, y21, y22, y23, y24, y25, y26, ()) && (elemEq k3 (a27, a28, a29, ()) (y27, y28, y29, ()) && (a30 == y30)))))) := by
  simp only [elemEq, ckEq, Bool.and_assoc]
theorem h139 : G1Ok Tryz.prog 139 g139 := by
  intro args obs k h
  unfold g139 at h
  split at h
  · rename_i k us vs
    split at h
    · rename_i a b ha hb
      obtain rfl := elemOf_inv ha
      obtain rfl := elemOf_inv hb
      obtain ⟨a0, a1, a2, a3, a4, a5, a6, a7, a8, a9, a10, a11, a12, a13, a14, a15, a16, a17, a18, a19, a20, a21, a22, a23, a24, a25, a26, a27, a28, a29, a30, ⟨⟩⟩ := a
      obtain ⟨y0, y1, y2, y3, y4, y5, y6, y7, y8, y9, y10, y11, y12, y13, y14, y15, y16, y17, y18, y19, y20, y21, y22, y23, y24, y25, y26, y27, y28, y29, y30, ⟨⟩⟩ := b
      refine ⟨_, ctr_fn ok0 hg139 Tryz.func139 (by kernel_rfl) (by kernel_rfl) (by kernel_rfl) fun C => ?_, h⟩
      show bodyP E0 G139 _ Tryz.f139 [.agg [.val (.string a0), .val (.int .i64 a1), .val (.string a2), .val (.int .i64 a3), .val (.int .i64 a4), .val (.int .i64 a5), .val (.int .i64 a6), .val (.int .i64 a7), .val (.int .i64 a8), .val (.int .i64 a9), .val (.int .i64 a10), .val (.int .i64 a11), .val (.int .i64 a12), .val (.int .i64 a13), .val (.int .i64 a14), .val (.int .i64 a15), .val (.int .i64 a16), .val (.int .i64 a17), .val (.int .i64 a18), .val (.int .i64 a19), .val (.int .i64 a20), .val (.int .i64 a21), .val (.int .i64 a22), .val (.int .i64 a23), .val (.int .i64 a24), .val (.int .i64 a25), .val (.int .i64 a26), .val (.int .i64 a27), .val (.int .i64 a28), .val (.int .i64 a29), .val (.bool a30)], .agg [.val (.string y0), .val (.int .i64 y1), .val (.string y2), .val (.int .i64 y3), .val (.int .i64 y4), .val (.int .i64 y5), .val (.int .i64 y6), .val (.int .i64 y7), .val (.int .i64 y8), .val (.int .i64 y9), .val (.int .i64 y10), .val (.int .i64 y11), .val (.int .i64 y12), .val (.int .i64 y13), .val (.int .i64 y14), .val (.int .i64 y15), .val (.int .i64 y16), .val (.int .i64 y17), .val (.int .i64 y18), .val (.int .i64 y19), .val (.int .i64 y20), .val (.int .i64 y21), .val (.int .i64 y22), .val (.int .i64 y23), .val (.int .i64 y24), .val (.int .i64 y25), .val (.int .i64 y26), .val (.int .i64 y27), .val (.int .i64 y28), .val (.int .i64 y29), .val (.bool y30)]] [] _
      rw [e139]
      refine br_not (fun h1 => ?_) (fun h1 => br_bne (fun h2 => ?_) (fun h2 => br_not (fun h3 => ?_) (fun h3 => br_not (fun h4 => ?_) (fun h4 => br_not (fun h5 => ?_) (fun h5 => br_not (fun h6 => ?_) (fun h6 => ?_))))))
      · show _ = _
        rw [eqCset, h1]
        rfl
      · show _ = _
        rw [eqCset, h1, h2]
        rfl
      · show _ = _
        rw [eqCset, h1, h2, h3]
        rfl
      · show _ = _
        rw [eqCset, h1, h2, h3, h4]
        rfl
      · show _ = _
        rw [eqCset, h1, h2, h3, h4, h5]
        rfl
      · show _ = _
        rw [eqCset, h1, h2, h3, h4, h5, h6]
        rfl
      · show _ = _
        rw [eqCset, h1, h2, h3, h4, h5, h6]
        rfl
    · exact h.elim
  · exact h.elim
def g63 : G1
  | [.rsl cxs xs0, .rsl cys ys0], [], k => match castE kc cxs xs0, castE kc cys ys0 with
    | some xs, some ys => br (decide (xs.length ≤ 1048576)) (k ⟨.val (.bool (eqR kc xs ys)), [], []⟩) False
    | _, _ => False
  | _, _, _ => False
noncomputable def E63 : Env := E0.of Tryz.f63
noncomputable def G63 : Gk := gk [(139, g139)]
noncomputable def lp63 (n : Nat) : Code := (loopOf n (codeOf Tryz.f63)).getD .skip
noncomputable def ct63 (L : Lp) (R : Option Res → Prop) (n : Nat) : Kt := contOf E63 G63 L n (codeOf Tryz.f63) (endK E63 Tryz.f63.results.toList R)
noncomputable def rk63 (L : Lp) (R : Option Res → Prop) (n : Nat) (N : St → Prop) : Kt := rk (jof E63 (lp63 n)) N (ct63 L R n)
noncomputable def LOOP63 (L : Lp) (R : Option Res → Prop) (n : Nat) (st : St) : Prop := L (lp63 n) st (ct63 L R n)
theorem hg63 : HG Tryz.prog G63 := (hg_cons h139 hg_nil)
theorem okf63 : Ok Tryz.prog E63 := ok0.of Tryz.f63
theorem e63 (L : Lp) (R : Option Res → Prop) (xs ys : List (Elem kc)) : (bodyP E0 G63 L Tryz.f63 [.rsl kc xs, .rsl kc ys] [] R) = (
    br ((↑xs.length : Int) != (↑ys.length : Int)) (R (some { av := vB false, obs := [], outs := [] })) (LOOP63 L R 4 { tm := [AV.rsl kc xs, AV.rsl kc ys, vU, vU, vB false, vI 0, vJ, vJ, vJ, vJ, vJ, vJ, vJ, vJ, vJ, vJ, vJ, vJ, vJ, vJ, vJ, vJ, vJ, vJ, vJ, vJ, vJ], ob := [], nx := 1000000, ps := [] })) := by kernel_rfl
def st63 (xs ys : List (Elem kc)) (i : Int) : St :=  ⟨[AV.rsl kc xs, AV.rsl kc ys, vU, vU, vB false, .val (.int .i64 i), vJ, vJ, vJ, vJ, vJ, vJ, vJ, vJ, vJ, vJ, vJ, vJ, vJ, vJ, vJ, vJ, vJ, vJ, vJ, vJ, vJ], [], 1000000, []⟩
theorem b63 (L : Lp) (R : Option Res → Prop) (N : St → Prop) (xs ys : List (Elem kc)) (i : Int) : (evP E63 G63 L (lp63 4) (st63 xs ys i) (rk63 L R 4 N)) = (
    br (decide (i < (↑xs.length : Int))) (br (decide (0 ≤ i ∧ i < (↑xs.length : Int))) (br (decide (0 ≤ i ∧ i < (↑ys.length : Int))) (br (!elemEq kc (xs.getD i.toNat (edflt kc)) (ys.getD i.toNat (edflt kc))) (R (some { av := vB false, obs := [], outs := [] })) (N { tm := [AV.rsl kc xs, AV.rsl kc ys, vU, vU, vB false, vI (IntKind.i64.wrap (i + 1)), vJ, vJ, vJ, vJ, vJ, vJ, vJ, vJ, vJ, vJ, vJ, vJ, vJ, vJ, vJ, vJ, vJ, vJ, vJ, vJ, vJ], ob := [], nx := 1000000, ps := [] })) False) False) (R (some { av := vB true, obs := [], outs := [] }))) := by kernel_rfl
theorem h63 : G1Ok Tryz.prog 63 g63 := by
  intro args obs k h
  unfold g63 at h
  split at h
  · rename_i k cxs xs0 cys ys0
    split at h
    rotate_left
    · exact h.elim
    rename_i xs ys hxs hys
    cases castE_inv hxs
    cases castE_inv hys
    obtain ⟨hlen, h⟩ := brd h
    refine ⟨_, ctr_fn ok0 hg63 Tryz.func63 (by kernel_rfl) (by kernel_rfl) (by kernel_rfl) fun C => ?_, h⟩
    rw [e63]
    refine br_intro (fun hb => ?_) (fun hb => ?_)
    · show _ = _
      rw [show eqR kc xs ys = false from eqL_len (fun e => by rw [e] at hb; simp at hb)]
    have hl : xs.length = ys.length := by simp at hb; omega
    exact loopAll okf63 hg63 (fun i => st63 xs ys i) xs.length (fun i => elemEq kc (xs.getD i (edflt kc)) (ys.getD i (edflt kc))) (by omega) (fun N i hi hw next fails done => by
      show evP E63 G63 _ (lp63 4) (st63 xs ys i) (rk63 _ _ 4 _)
      rw [b63, hw, Int.toNat_natCast]
      refine br_dec (fun h2 => br_yes ⟨by omega, h2⟩ (br_yes ⟨by omega, by omega⟩ (br_not (fun h3 => ?_) (fun h3 => ?_)))) (fun h2 => ?_)
      · show _ = _
        rw [show eqR kc xs ys = false from (eqL_of hl).trans (fails (by omega) h3)]
      · exact next (by omega) h3
      · show _ = _
        rw [show eqR kc xs ys = true from (eqL_of hl).trans (done (by omega))])
  · exact h.elim
def g65 : G1
  | [.rsl [.int .i64, .int .i64, .int .i64] xs, .rsl [.int .i64, .int .i64, .int .i64] ys], [], k => br (decide (xs.length ≤ 1048576)) (k ⟨.val (.bool (eqR k3 xs ys)), [], []⟩) False
  | _, _, _ => False
noncomputable def E65 : Env := E0.of Tryz.f65
noncomputable def G65 : Gk := gk [(141, g141)]
noncomputable def lp65 (n : Nat) : Code := (loopOf n (codeOf Tryz.f65)).getD .skip
noncomputable def ct65 (L : Lp) (R : Option Res → Prop) (n : Nat) : Kt := contOf E65 G65 L n (codeOf Tryz.f65) (endK E65 Tryz.f65.results.toList R)
noncomputable def rk65 (L : Lp) (R : Option Res → Prop) (n : Nat) (N : St → Prop) : Kt := rk (jof E65 (lp65 n)) N (ct65 L R n)
noncomputable def LOOP65 (L : Lp) (R : Option Res → Prop) (n : Nat) (st : St) : Prop := L (lp65 n) st (ct65 L R n)
theorem hg65 : HG Tryz.prog G65 := (hg_cons h141 hg_nil)
theorem okf65 : Ok Tryz.prog E65 := ok0.of Tryz.f65
theorem e65 (L : Lp) (R : Option Res → Prop) (xs ys : List (Elem k3)) : (bodyP E0 G65 L Tryz.f65 [.rsl k3 xs, .rsl k3 ys] [] R) = (
    br ((↑xs.length : Int) != (↑ys.length : Int)) (R (some { av := vB false, obs := [], outs := [] })) (LOOP65 L R 4 { tm := [AV.rsl k3 xs, AV.rsl k3 ys, vU, vU, vB false, vI 0, vJ, vJ, vJ, vJ, vJ, vJ, vJ, vJ, vJ, vJ, vJ, vJ, vJ, vJ, vJ, vJ, vJ, vJ, vJ, vJ, vJ], ob := [], nx := 1000000, ps := [] })) := by kernel_rfl
def st65 (xs ys : List (Elem k3)) (i : Int) : St :=  ⟨[AV.rsl k3 xs, AV.rsl k3 ys, vU, vU, vB false, .val (.int .i64 i), vJ, vJ, vJ, vJ, vJ, vJ, vJ, vJ, vJ, vJ, vJ, vJ, vJ, vJ, vJ, vJ, vJ, vJ, vJ, vJ, vJ], [], 1000000, []⟩
theorem b65 (L : Lp) (R : Option Res → Prop) (N : St → Prop) (xs ys : List (Elem k3)) (i : Int) : (evP E65 G65 L (lp65 4) (st65 xs ys i) (rk65 L R 4 N)) = (
    br (decide (i < (↑xs.length : Int))) (br (decide (0 ≤ i ∧ i < (↑xs.length : Int))) (br (decide (0 ≤ i ∧ i < (↑ys.length : Int))) (br (!elemEq k3 (xs.getD i.toNat (edflt k3)) (ys.getD i.toNat (edflt k3))) (R (some { av := vB false, obs := [], outs := [] })) (N { tm := [AV.rsl k3 xs, AV.rsl k3 ys, vU, vU, vB false, vI (IntKind.i64.wrap (i + 1)), vJ, vJ, vJ, vJ, vJ, vJ, vJ, vJ, vJ, vJ, vJ, vJ, vJ, vJ, vJ, vJ, vJ, vJ, vJ, vJ, vJ], ob := [], nx := 1000000, ps := [] })) False) False) (R (some { av := vB true, obs := [], outs := [] }))) := by kernel_rfl
theorem h65 : G1Ok Tryz.prog 65 g65 := by
  intro args obs k h
  unfold g65 at h
  split at h
  · rename_i k xs ys
    obtain ⟨hlen, h⟩ := brd h
    refine ⟨_, ctr_fn ok0 hg65 Tryz.func65 (by kernel_rfl) (by kernel_rfl) (by kernel_rfl) fun C => ?_, h⟩
    rw [e65]
    refine br_intro (fun hb => ?_) (fun hb => ?_)
    · show _ = _
      rw [show eqR k3 xs ys = false from eqL_len (fun e => by rw [e] at hb; simp at hb)]
    have hl : xs.length = ys.length := by simp at hb; omega
    exact loopAll okf65 hg65 (fun i => st65 xs ys i) xs.length (fun i => elemEq k3 (xs.getD i (edflt k3)) (ys.getD i (edflt k3))) (by omega) (fun N i hi hw next fails done => by
      show evP E65 G65 _ (lp65 4) (st65 xs ys i) (rk65 _ _ 4 _)
      rw [b65, hw, Int.toNat_natCast]
      refine br_dec (fun h2 => br_yes ⟨by omega, h2⟩ (br_yes ⟨by omega, by omega⟩ (br_not (fun h3 => ?_) (fun h3 => ?_)))) (fun h2 => ?_)
      · show _ = _
        rw [show eqR k3 xs ys = false from (eqL_of hl).trans (fails (by omega) h3)]
      · exact next (by omega) h3
      · show _ = _
        rw [show eqR k3 xs ys = true from (eqL_of hl).trans (done (by omega))])
  · exact h.elim
def g15 : G1
  | [.rsl [.int .i64] xs, .rsl [.int .i64] ys], [], k => br (decide (xs.length ≤ 1048576)) (k ⟨.val (.bool (eqR ki xs ys)), [], []⟩) False
  | _, _, _ => False
noncomputable def E15 : Env := E0.of Tryz.f15
noncomputable def G15 : Gk := gk []
noncomputable def lp15 (n : Nat) : Code := (loopOf n (codeOf Tryz.f15)).getD .skip
noncomputable def ct15 (L : Lp) (R : Option Res → Prop) (n : Nat) : Kt := contOf E15 G15 L n (codeOf Tryz.f15) (endK E15 Tryz.f15.results.toList R)
noncomputable def rk15 (L : Lp) (R : Option Res → Prop) (n : Nat) (N : St → Prop) : Kt := rk (jof E15 (lp15 n)) N (ct15 L R n)
noncomputable def LOOP15 (L : Lp) (R : Option Res → Prop) (n : Nat) (st : St) : Prop := L (lp15 n) st (ct15 L R n)
theorem hg15 : HG Tryz.prog G15 := hg_nil
theorem okf15 : Ok Tryz.prog E15 := ok0.of Tryz.f15
theorem e15 (L : Lp) (R : Option Res → Prop) (xs ys : List (Elem ki)) : (bodyP E0 G15 L Tryz.f15 [.rsl ki xs, .rsl ki ys] [] R) = (
    br ((↑xs.length : Int) != (↑ys.length : Int)) (R (some { av := vB false, obs := [], outs := [] })) (LOOP15 L R 4 { tm := [AV.rsl ki xs, AV.rsl ki ys, vU, vU, vB false, vI 0, vJ, vJ, vJ, vJ, vJ, vJ, vJ, vJ, vJ, vJ, vJ, vJ, vJ, vJ, vJ, vJ, vJ, vJ, vJ, vJ], ob := [], nx := 1000000, ps := [] })) := by kernel_rfl
def st15 (xs ys : List (Elem ki)) (i : Int) : St :=  ⟨[AV.rsl ki xs, AV.rsl ki ys, vU, vU, vB false, .val (.int .i64 i), vJ, vJ, vJ, vJ, vJ, vJ, vJ, vJ, vJ, vJ, vJ, vJ, vJ, vJ, vJ, vJ, vJ, vJ, vJ, vJ], [], 1000000, []⟩
theorem b15 (L : Lp) (R : Option Res → Prop) (N : St → Prop) (xs ys : List (Elem ki)) (i : Int) : (evP E15 G15 L (lp15 4) (st15 xs ys i) (rk15 L R 4 N)) = (
    br (decide (i < (↑xs.length : Int))) (br (decide (0 ≤ i ∧ i < (↑xs.length : Int))) (br (decide (0 ≤ i ∧ i < (↑ys.length : Int))) (br ((xs.getD i.toNat (edflt ki)).fst != (ys.getD i.toNat (edflt ki)).fst) (R (some { av := vB false, obs := [], outs := [] })) (N { tm := [AV.rsl ki xs, AV.rsl ki ys, vU, vU, vB false, vI (IntKind.i64.wrap (i + 1)), vJ, vJ, vJ, vJ, vJ, vJ, vJ, vJ, vJ, vJ, vJ, vJ, vJ, vJ, vJ, vJ, vJ, vJ, vJ, vJ], ob := [], nx := 1000000, ps := [] })) False) False) (R (some { av := vB true, obs := [], outs := [] }))) := by kernel_rfl
theorem h15 : G1Ok Tryz.prog 15 g15 := by
  intro args obs k h
  unfold g15 at h
  split at h
  · rename_i k xs ys
    obtain ⟨hlen, h⟩ := brd h
    refine ⟨_, ctr_fn ok0 hg15 Tryz.func15 (by kernel_rfl) (by kernel_rfl) (by kernel_rfl) fun C => ?_, h⟩
    rw [e15]
    refine br_intro (fun hb => ?_) (fun hb => ?_)
    · show _ = _
      rw [show eqR ki xs ys = false from eqL_len (fun e => by rw [e] at hb; simp at hb)]
    have hl : xs.length = ys.length := by simp at hb; omega
    exact loopAll okf15 hg15 (fun i => st15 xs ys i) xs.length (fun i => elemEq ki (xs.getD i (edflt ki)) (ys.getD i (edflt ki))) (by omega) (fun N i hi hw next fails done => by
      show evP E15 G15 _ (lp15 4) (st15 xs ys i) (rk15 _ _ 4 _)
      rw [b15, hw, Int.toNat_natCast]
      refine br_dec (fun h2 => br_yes ⟨by omega, h2⟩ (br_yes ⟨by omega, by omega⟩ (br_not (fun h3 => ?_) (fun h3 => ?_)))) (fun h2 => ?_)
      · show _ = _
        rw [show eqR ki xs ys = false from (eqL_of hl).trans (fails (by omega) h3)]
      · exact next (by omega) h3
      · show _ = _
        rw [show eqR ki xs ys = true from (eqL_of hl).trans (done (by omega))])
  · exact h.elim
end Go.Proofs.YtkjnijddbiconaaGreatDoor.Ev

