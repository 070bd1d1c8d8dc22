/- Contracts for cores: equality. -/
import Derived.Test.YtljilcingbohkabDoorC1
import Derived.Test.YtljilcingbohkabDoorE1
import Derived.Test.YtljilcingbohkabDoorD13
namespace Go.Proofs.YtljilcingbohkabDoor.Ev
open Go
set_option linter.unusedVariables false
set_option linter.unusedSimpArgs false
set_option maxRecDepth 100000

def g130 : G1
  | [.agg us, .agg vs], [], k => match elemOf kc us, elemOf kc vs with
    | some a, some b => k ⟨.val (.bool (elemEq kc a b)), [], []⟩
    | _, _ => False
  | _, _, _ => False
noncomputable def E130 : Env := E0.of Tryd.f130
noncomputable def G130 : Gk := gk [(21, g21), (35, g35)]
noncomputable def lp130 (n : Nat) : Code := (loopOf n (codeOf Tryd.f130)).getD .skip
noncomputable def ct130 (L : Lp) (R : Option Res → Prop) (n : Nat) : Kt := contOf E130 G130 L n (codeOf Tryd.f130) (endK E130 Tryd.f130.results.toList R)
noncomputable def rk130 (L : Lp) (R : Option Res → Prop) (n : Nat) (N : St → Prop) : Kt := rk (jof E130 (lp130 n)) N (ct130 L R n)
noncomputable def rkn130 (L : Lp) (R : Option Res → Prop) (n : Nat) (N : St → Prop) (m : Nat) (N2 : St → Prop) : Kt := rk (jof E130 (lp130 m)) N2 (contOf E130 G130 L m (lp130 n) (rk130 L R n N))
noncomputable def LOOPN130 (L : Lp) (R : Option Res → Prop) (n : Nat) (N : St → Prop) (m : Nat) (st : St) : Prop := L (lp130 m) st (contOf E130 G130 L m (lp130 n) (rk130 L R n N))
noncomputable def LOOP130 (L : Lp) (R : Option Res → Prop) (n : Nat) (st : St) : Prop := L (lp130 n) st (ct130 L R n)
theorem hg130 : HG Tryd.prog G130 := (hg_cons h21 (hg_cons h35 hg_nil))
theorem okf130 : Ok Tryd.prog E130 := ok0.of Tryd.f130
theorem e130 (L : Lp) (R : Option Res → Prop) (a0 : ByteArray) (a1 : Int) (a2 : ByteArray) (a3 : Int) (a4 : Int) (a5 : Int) (a6 : Int) (a7 : Int) (a8 : Int) (a9 : Int) (a10 : Int) (a11 : Int) (a12 : Int) (a13 : Int) (a14 : Int) (a15 : Int) (a16 : Int) (a17 : Int) (a18 : Int) (a19 : Int) (a20 : Int) (a21 : Int) (a22 : Int) (a23 : Int) (a24 : Int) (a25 : Int) (a26 : Int) (a27 : Int) (a28 : Int) (a29 : Int) (a30 : Bool) (b0 : ByteArray) (b1 : Int) (b2 : ByteArray) (b3 : Int) (b4 : Int) (b5 : Int) (b6 : Int) (b7 : Int) (b8 : Int) (b9 : Int) (b10 : Int) (b11 : Int) (b12 : Int) (b13 : Int) (b14 : Int) (b15 : Int) (b16 : Int) (b17 : Int) (b18 : Int) (b117 : Int) (b20 : Int) (b21 : Int) (b22 : Int) (b47 : Int) (b24 : Int) (b59 : Int) (b26 : Int) (b38 : Int) (b28 : Int) (b29 : Int) (b30 : Bool) : (bodyP E0 G130 L Tryd.f130 [.agg [.val (.string a0), .val (.int .i64 a1), .val (.string a2), .val (.int .i64 a3), .val (.int .i64 a4), .val (.int .i64 a5), .val (.int .i64 a6), .val (.int .i64 a7), .val (.int .i64 a8), .val (.int .i64 a9), .val (.int .i64 a10), .val (.int .i64 a11), .val (.int .i64 a12), .val (.int .i64 a13), .val (.int .i64 a14), .val (.int .i64 a15), .val (.int .i64 a16), .val (.int .i64 a17), .val (.int .i64 a18), .val (.int .i64 a19), .val (.int .i64 a20), .val (.int .i64 a21), .val (.int .i64 a22), .val (.int .i64 a23), .val (.int .i64 a24), .val (.int .i64 a25), .val (.int .i64 a26), .val (.int .i64 a27), .val (.int .i64 a28), .val (.int .i64 a29), .val (.bool a30)], .agg [.val (.string b0), .val (.int .i64 b1), .val (.string b2), .val (.int .i64 b3), .val (.int .i64 b4), .val (.int .i64 b5), .val (.int .i64 b6), .val (.int .i64 b7), .val (.int .i64 b8), .val (.int .i64 b9), .val (.int .i64 b10), .val (.int .i64 b11), .val (.int .i64 b12), .val (.int .i64 b13), .val (.int .i64 b14), .val (.int .i64 b15), .val (.int .i64 b16), .val (.int .i64 b17), .val (.int .i64 b18), .val (.int .i64 b117), .val (.int .i64 b20), .val (.int .i64 b21), .val (.int .i64 b22), .val (.int .i64 b47), .val (.int .i64 b24), .val (.int .i64 b59), .val (.int .i64 b26), .val (.int .i64 b38), .val (.int .i64 b28), .val (.int .i64 b29), .val (.bool b30)]] [] R) = (
    br (!strEq a0 b0) (R (some { av := vB false, obs := [], outs := [] })) (br (a1 != b1) (R (some { av := vB false, obs := [], outs := [] })) (br (!strEq a2 b2) (R (some { av := vB false, obs := [], outs := [] })) (br (!elemEq [CK.int IntKind.i64, CK.int IntKind.i64, CK.int IntKind.i64, CK.int IntKind.i64, CK.int IntKind.i64, CK.int IntKind.i64, CK.int IntKind.i64, CK.int IntKind.i64, CK.int IntKind.i64, CK.int IntKind.i64, CK.int IntKind.i64, CK.int IntKind.i64, CK.int IntKind.i64, CK.int IntKind.i64, CK.int IntKind.i64, CK.int IntKind.i64, CK.int IntKind.i64, CK.int IntKind.i64, CK.int IntKind.i64, CK.int IntKind.i64, CK.int IntKind.i64, CK.int IntKind.i64, CK.int IntKind.i64, CK.int IntKind.i64] (a3, a4, a5, a6, a7, a8, a9, a10, a11, a12, a13, a14, a15, a16, a17, a18, a19, a20, a21, a22, a23, a24, a25, a26, ()) (b3, b4, b5, b6, b7, b8, b9, b10, b11, b12, b13, b14, b15, b16, b17, b18, b117, b20, b21, b22, b47, b24, b59, b26, ())) (R (some { av := vB false, obs := [], outs := [] })) (br (!elemEq k3 (a27, a28, a29, ()) (b38, b28, b29, ())) (R (some { av := vB false, obs := [], outs := [] })) (br (!a30 == b30) (R (some { av := vB false, obs := [], outs := [] })) (R (some { av := vB true, obs := [], outs := [] })))))))) := by kernel_rfl
theorem eq142 (a0 : ByteArray) (a1 : Int) (a2 : ByteArray) (a3 : Int) (a4 : Int) (a5 : Int) (a6 : Int) (a7 : Int) (a8 : Int) (a9 : Int) (a10 : Int) (a11 : Int) (a12 : Int) (a13 : Int) (a14 : Int) (a15 : Int) (a16 : Int) (a17 : Int) (a18 : Int) (a19 : Int) (a20 : Int) (a21 : Int) (a22 : Int) (a23 : Int) (a24 : Int) (a25 : Int) (a26 : Int) (a27 : Int) (a28 : Int) (a29 : Int) (a30 : Bool) (b0 : ByteArray) (b1 : Int) (b2 : ByteArray) (b3 : Int) (b4 : Int) (b5 : Int) (b6 : Int) (b7 : Int) (b8 : Int) (b9 : Int) (b10 : Int) (b11 : Int) (b12 : Int) (b13 : Int) (b14 : Int) (b15 : Int) (b16 : Int) (b17 : Int) (b18 : Int) (b117 : Int) (b20 : Int) (b21 : Int) (b22 : Int) (b47 : Int) (b24 : Int) (b59 : Int) (b26 : Int) (b38 : Int) (b28 : Int) (b29 : Int) (b30 : Bool) : elemEq kc (a0, a1, a2, a3, a4, a5, a6, a7, a8, a9, a10, a11, a12, a13, a14, a15, a16, a17, a18, a19, a20, a21, a22, a23, a24, a25, a26, a27, a28, a29, a30, ()) (b0, b1, b2, b3, b4, b5, b6, b7, b8, b9, b10, b11, b12, b13, b14, b15, b16, b17, b18, b117, b20, b21, b22, b47, b24, b59, b26, b38, b28, b29, b30, ()) = (strEq a0 b0 && ((a1 == b1) && (strEq a2 b2 && (elemEq [.int .i64, .int .i64, .int .i64, .int .i64, .int .i64, .int .i64, .int .i64, .int .i64, .int .i64, .int .i64, .int .i64, .int .i64, .int .i64, .int .i64, .int .i64, .int .i64, .int .i64, .int .i64, .int .i64, .int .i64, .int .i64, .int .i64, .int .i64, .int .i64] (a3, a4, a5, a6, a7, a8, a9, a10, a11, a12, a13, a14, a15, a16, a17, a18, a19, a20, a21, a22, a23, a24, a25, a26, ()) (b3, b4, b5, b6, b7, b8, b9, b10, b11, b12, b13, b14, b15, b16, b17, b18, b117, b20, b21, b22, b47, b24, b59, b26, ()) && (elemEq k3 (a27, a28, a29, ()) (b38, b28, b29, ()) && (a30 == b30)))))) := by
  simp only [elemEq, ckEq, Bool.and_assoc]
theorem h130 : G1Ok Tryd.prog 130 g130 := by
  intro args obs k h
  unfold g130 at h
  split at h
  · rename_i k us vs
    split at h
    · rename_i a b ha hb
      obtain rfl := elemOf_inv ha
      obtain rfl := elemOf_inv hb
      obtain ⟨a0, a1, a2, a3, a4, a5, a6, a7, a8, a9, a10, a11, a12, a13, a14, a15, a16, a17, a18, a19, a20, a21, a22, a23, a24, a25, a26, a27, a28, a29, a30, ⟨⟩⟩ := a
      obtain ⟨b0, b1, b2, b3, b4, b5, b6, b7, b8, b9, b10, b11, b12, b13, b14, b15, b16, b17, b18, b117, b20, b21, b22, b47, b24, b59, b26, b38, b28, b29, b30, ⟨⟩⟩ := b
      refine ⟨_, ctr_fn ok0 hg130 Tryd.func130 (by kernel_rfl) (by kernel_rfl) (by kernel_rfl) fun C => ?_, h⟩
      show bodyP E0 G130 _ Tryd.f130 [.agg [.val (.string a0), .val (.int .i64 a1), .val (.string a2), .val (.int .i64 a3), .val (.int .i64 a4), .val (.int .i64 a5), .val (.int .i64 a6), .val (.int .i64 a7), .val (.int .i64 a8), .val (.int .i64 a9), .val (.int .i64 a10), .val (.int .i64 a11), .val (.int .i64 a12), .val (.int .i64 a13), .val (.int .i64 a14), .val (.int .i64 a15), .val (.int .i64 a16), .val (.int .i64 a17), .val (.int .i64 a18), .val (.int .i64 a19), .val (.int .i64 a20), .val (.int .i64 a21), .val (.int .i64 a22), .val (.int .i64 a23), .val (.int .i64 a24), .val (.int .i64 a25), .val (.int .i64 a26), .val (.int .i64 a27), .val (.int .i64 a28), .val (.int .i64 a29), .val (.bool a30)], .agg [.val (.string b0), .val (.int .i64 b1), .val (.string b2), .val (.int .i64 b3), .val (.int .i64 b4), .val (.int .i64 b5), .val (.int .i64 b6), .val (.int .i64 b7), .val (.int .i64 b8), .val (.int .i64 b9), .val (.int .i64 b10), .val (.int .i64 b11), .val (.int .i64 b12), .val (.int .i64 b13), .val (.int .i64 b14), .val (.int .i64 b15), .val (.int .i64 b16), .val (.int .i64 b17), .val (.int .i64 b18), .val (.int .i64 b117), .val (.int .i64 b20), .val (.int .i64 b21), .val (.int .i64 b22), .val (.int .i64 b47), .val (.int .i64 b24), .val (.int .i64 b59), .val (.int .i64 b26), .val (.int .i64 b38), .val (.int .i64 b28), .val (.int .i64 b29), .val (.bool b30)]] [] _
      rw [e130]
      refine br_not (fun h1 => ?_) (fun h1 => br_bne (fun h2 => ?_) (fun h2 => br_not (fun h3 => ?_) (fun h3 => br_not (fun h4 => ?_) (fun h4 => br_not (fun h5 => ?_) (fun h5 => br_not (fun h6 => ?_) (fun h6 => ?_))))))
      · show _ = _
        rw [eq142, h1]
        rfl
      · show _ = _
        rw [eq142, h1, h2]
        rfl
      · show _ = _
        rw [eq142, h1, h2, h3]
        rfl
      · show _ = _
        rw [eq142, h1, h2, h3, h4]
        rfl
      · show _ = _
        rw [eq142, h1, h2, h3, h4, h5]
        rfl
      · show _ = _
        rw [eq142, h1, h2, h3, h4, h5, h6]
        rfl
      · show _ = _
        rw [eq142, h1, h2, h3, h4, h5, h6]
        rfl
    · exact h.elim
  · exact h.elim
def g73 : G1
  | [.rsl cxs xs0, .rsl cys ys0], [], k => match castE kc cxs xs0, castE kc cys ys0 with
    | some xs, some ys => br (decide (xs.length ≤ 1048576)) (k ⟨.val (.bool (eqR kc xs ys)), [], []⟩) False
    | _, _ => False
  | _, _, _ => False
noncomputable def E73 : Env := E0.of Tryd.f73
noncomputable def G73 : Gk := gk [(130, g130)]
noncomputable def lp73 (n : Nat) : Code := (loopOf n (codeOf Tryd.f73)).getD .skip
noncomputable def ct73 (L : Lp) (R : Option Res → Prop) (n : Nat) : Kt := contOf E73 G73 L n (codeOf Tryd.f73) (endK E73 Tryd.f73.results.toList R)
noncomputable def rk73 (L : Lp) (R : Option Res → Prop) (n : Nat) (N : St → Prop) : Kt := rk (jof E73 (lp73 n)) N (ct73 L R n)
noncomputable def rkn73 (L : Lp) (R : Option Res → Prop) (n : Nat) (N : St → Prop) (m : Nat) (N2 : St → Prop) : Kt := rk (jof E73 (lp73 m)) N2 (contOf E73 G73 L m (lp73 n) (rk73 L R n N))
noncomputable def LOOPN73 (L : Lp) (R : Option Res → Prop) (n : Nat) (N : St → Prop) (m : Nat) (st : St) : Prop := L (lp73 m) st (contOf E73 G73 L m (lp73 n) (rk73 L R n N))
noncomputable def LOOP73 (L : Lp) (R : Option Res → Prop) (n : Nat) (st : St) : Prop := L (lp73 n) st (ct73 L R n)
theorem hg73 : HG Tryd.prog G73 := (hg_cons h130 hg_nil)
theorem okf73 : Ok Tryd.prog E73 := ok0.of Tryd.f73
theorem e73 (L : Lp) (R : Option Res → Prop) (xs ys : List (Elem kc)) : (bodyP E0 G73 L Tryd.f73 [.rsl kc xs, .rsl kc ys] [] R) = (
    br ((↑xs.length : Int) != (↑ys.length : Int)) (R (some { av := vB false, obs := [], outs := [] })) (LOOP73 L R 4 { tm := [AV.rsl kc xs, AV.rsl kc ys, vU, vU, vB false, vI 0, vJ, vJ, vJ, vJ, vJ, vJ, vJ, vJ, vJ, vJ, vJ, vJ, vJ, vJ, vJ, vJ, vJ, vJ, vJ, vJ, vJ], ob := [], nx := 1000000, ps := [] })) := by kernel_rfl
def st73 (xs ys : List (Elem kc)) (i : Int) : St :=  ⟨[AV.rsl kc xs, AV.rsl kc ys, vU, vU, vB false, .val (.int .i64 i), vJ, vJ, vJ, vJ, vJ, vJ, vJ, vJ, vJ, vJ, vJ, vJ, vJ, vJ, vJ, vJ, vJ, vJ, vJ, vJ, vJ], [], 1000000, []⟩
theorem b73 (L : Lp) (R : Option Res → Prop) (N : St → Prop) (xs ys : List (Elem kc)) (i : Int) : (evP E73 G73 L (lp73 4) (st73 xs ys i) (rk73 L R 4 N)) = (
    br (decide (i < (↑xs.length : Int))) (br (decide (0 ≤ i ∧ i < (↑xs.length : Int))) (br (decide (0 ≤ i ∧ i < (↑ys.length : Int))) (br (!elemEq kc (xs.getD i.toNat (edflt kc)) (ys.getD i.toNat (edflt kc))) (R (some { av := vB false, obs := [], outs := [] })) (N { tm := [AV.rsl kc xs, AV.rsl kc ys, vU, vU, vB false, vI (IntKind.i64.wrap (i + 1)), vJ, vJ, vJ, vJ, vJ, vJ, vJ, vJ, vJ, vJ, vJ, vJ, vJ, vJ, vJ, vJ, vJ, vJ, vJ, vJ, vJ], ob := [], nx := 1000000, ps := [] })) False) False) (R (some { av := vB true, obs := [], outs := [] }))) := by kernel_rfl
theorem h73 : G1Ok Tryd.prog 73 g73 := by
  intro args obs k h
  unfold g73 at h
  split at h
  · rename_i k cxs xs0 cys ys0
    split at h
    rotate_left
    · exact h.elim
    rename_i xs ys hxs hys
    cases castE_inv hxs
    cases castE_inv hys
    obtain ⟨hlen, h⟩ := brd h
    refine ⟨_, ctr_fn ok0 hg73 Tryd.func73 (by kernel_rfl) (by kernel_rfl) (by kernel_rfl) fun C => ?_, h⟩
    rw [e73]
    refine br_intro (fun hb => ?_) (fun hb => ?_)
    · show _ = _
      rw [show eqR kc xs ys = false from eqL_len (fun e => by rw [e] at hb; simp at hb)]
    have hl : xs.length = ys.length := by simp at hb; omega
    exact loopAll okf73 hg73 (fun i => st73 xs ys i) xs.length (fun i => elemEq kc (xs.getD i (edflt kc)) (ys.getD i (edflt kc))) (by omega) (fun N i hi hw next fails done => by
      show evP E73 G73 _ (lp73 4) (st73 xs ys i) (rk73 _ _ 4 _)
      rw [b73, hw, Int.toNat_natCast]
      refine br_dec (fun h2 => br_yes ⟨by omega, h2⟩ (br_yes ⟨by omega, by omega⟩ (br_not (fun h3 => ?_) (fun h3 => ?_)))) (fun h2 => ?_)
      · show _ = _
        rw [show eqR kc xs ys = false from (eqL_of hl).trans (fails (by omega) h3)]
      · exact next (by omega) h3
      · show _ = _
        rw [show eqR kc xs ys = true from (eqL_of hl).trans (done (by omega))])
  · exact h.elim
def g74 : G1
  | [.rsl [.int .i64, .int .i64, .int .i64] xs, .rsl [.int .i64, .int .i64, .int .i64] ys], [], k => br (decide (xs.length ≤ 1048576)) (k ⟨.val (.bool (eqR k3 xs ys)), [], []⟩) False
  | _, _, _ => False
noncomputable def E74 : Env := E0.of Tryd.f74
noncomputable def G74 : Gk := gk [(21, g21)]
noncomputable def lp74 (n : Nat) : Code := (loopOf n (codeOf Tryd.f74)).getD .skip
noncomputable def ct74 (L : Lp) (R : Option Res → Prop) (n : Nat) : Kt := contOf E74 G74 L n (codeOf Tryd.f74) (endK E74 Tryd.f74.results.toList R)
noncomputable def rk74 (L : Lp) (R : Option Res → Prop) (n : Nat) (N : St → Prop) : Kt := rk (jof E74 (lp74 n)) N (ct74 L R n)
noncomputable def rkn74 (L : Lp) (R : Option Res → Prop) (n : Nat) (N : St → Prop) (m : Nat) (N2 : St → Prop) : Kt := rk (jof E74 (lp74 m)) N2 (contOf E74 G74 L m (lp74 n) (rk74 L R n N))
noncomputable def LOOPN74 (L : Lp) (R : Option Res → Prop) (n : Nat) (N : St → Prop) (m : Nat) (st : St) : Prop := L (lp74 m) st (contOf E74 G74 L m (lp74 n) (rk74 L R n N))
noncomputable def LOOP74 (L : Lp) (R : Option Res → Prop) (n : Nat) (st : St) : Prop := L (lp74 n) st (ct74 L R n)
theorem hg74 : HG Tryd.prog G74 := (hg_cons h21 hg_nil)
theorem okf74 : Ok Tryd.prog E74 := ok0.of Tryd.f74
theorem e74 (L : Lp) (R : Option Res → Prop) (xs ys : List (Elem k3)) : (bodyP E0 G74 L Tryd.f74 [.rsl k3 xs, .rsl k3 ys] [] R) = (
    br ((↑xs.length : Int) != (↑ys.length : Int)) (R (some { av := vB false, obs := [], outs := [] })) (LOOP74 L R 4 { tm := [AV.rsl k3 xs, AV.rsl k3 ys, vU, vU, vB false, vI 0, vJ, vJ, vJ, vJ, vJ, vJ, vJ, vJ, vJ, vJ, vJ, vJ, vJ, vJ, vJ, vJ, vJ, vJ, vJ, vJ, vJ], ob := [], nx := 1000000, ps := [] })) := by kernel_rfl
def st74 (xs ys : List (Elem k3)) (i : Int) : St :=  ⟨[AV.rsl k3 xs, AV.rsl k3 ys, vU, vU, vB false, .val (.int .i64 i), vJ, vJ, vJ, vJ, vJ, vJ, vJ, vJ, vJ, vJ, vJ, vJ, vJ, vJ, vJ, vJ, vJ, vJ, vJ, vJ, vJ], [], 1000000, []⟩
theorem b74 (L : Lp) (R : Option Res → Prop) (N : St → Prop) (xs ys : List (Elem k3)) (i : Int) : (evP E74 G74 L (lp74 4) (st74 xs ys i) (rk74 L R 4 N)) = (
    br (decide (i < (↑xs.length : Int))) (br (decide (0 ≤ i ∧ i < (↑xs.length : Int))) (br (decide (0 ≤ i ∧ i < (↑ys.length : Int))) (br (!elemEq k3 (xs.getD i.toNat (edflt k3)) (ys.getD i.toNat (edflt k3))) (R (some { av := vB false, obs := [], outs := [] })) (N { tm := [AV.rsl k3 xs, AV.rsl k3 ys, vU, vU, vB false, vI (IntKind.i64.wrap (i + 1)), vJ, vJ, vJ, vJ, vJ, vJ, vJ, vJ, vJ, vJ, vJ, vJ, vJ, vJ, vJ, vJ, vJ, vJ, vJ, vJ, vJ], ob := [], nx := 1000000, ps := [] })) False) False) (R (some { av := vB true, obs := [], outs := [] }))) := by kernel_rfl
theorem h74 : G1Ok Tryd.prog 74 g74 := by
  intro args obs k h
  unfold g74 at h
  split at h
  · rename_i k xs ys
    obtain ⟨hlen, h⟩ := brd h
    refine ⟨_, ctr_fn ok0 hg74 Tryd.func74 (by kernel_rfl) (by kernel_rfl) (by kernel_rfl) fun C => ?_, h⟩
    rw [e74]
    refine br_intro (fun hb => ?_) (fun hb => ?_)
    · show _ = _
      rw [show eqR k3 xs ys = false from eqL_len (fun e => by rw [e] at hb; simp at hb)]
    have hl : xs.length = ys.length := by simp at hb; omega
    exact loopAll okf74 hg74 (fun i => st74 xs ys i) xs.length (fun i => elemEq k3 (xs.getD i (edflt k3)) (ys.getD i (edflt k3))) (by omega) (fun N i hi hw next fails done => by
      show evP E74 G74 _ (lp74 4) (st74 xs ys i) (rk74 _ _ 4 _)
      rw [b74, hw, Int.toNat_natCast]
      refine br_dec (fun h2 => br_yes ⟨by omega, h2⟩ (br_yes ⟨by omega, by omega⟩ (br_not (fun h3 => ?_) (fun h3 => ?_)))) (fun h2 => ?_)
      · show _ = _
        rw [show eqR k3 xs ys = false from (eqL_of hl).trans (fails (by omega) h3)]
      · exact next (by omega) h3
      · show _ = _
        rw [show eqR k3 xs ys = true from (eqL_of hl).trans (done (by omega))])
  · exact h.elim
def g75 : G1
  | [.rsl [.int .i64] xs, .rsl [.int .i64] ys], [], k => br (decide (xs.length ≤ 1048576)) (k ⟨.val (.bool (eqR ki xs ys)), [], []⟩) False
  | _, _, _ => False
noncomputable def E75 : Env := E0.of Tryd.f75
noncomputable def G75 : Gk := gk []
noncomputable def lp75 (n : Nat) : Code := (loopOf n (codeOf Tryd.f75)).getD .skip
noncomputable def ct75 (L : Lp) (R : Option Res → Prop) (n : Nat) : Kt := contOf E75 G75 L n (codeOf Tryd.f75) (endK E75 Tryd.f75.results.toList R)
noncomputable def rk75 (L : Lp) (R : Option Res → Prop) (n : Nat) (N : St → Prop) : Kt := rk (jof E75 (lp75 n)) N (ct75 L R n)
noncomputable def rkn75 (L : Lp) (R : Option Res → Prop) (n : Nat) (N : St → Prop) (m : Nat) (N2 : St → Prop) : Kt := rk (jof E75 (lp75 m)) N2 (contOf E75 G75 L m (lp75 n) (rk75 L R n N))
noncomputable def LOOPN75 (L : Lp) (R : Option Res → Prop) (n : Nat) (N : St → Prop) (m : Nat) (st : St) : Prop := L (lp75 m) st (contOf E75 G75 L m (lp75 n) (rk75 L R n N))
noncomputable def LOOP75 (L : Lp) (R : Option Res → Prop) (n : Nat) (st : St) : Prop := L (lp75 n) st (ct75 L R n)
theorem hg75 : HG Tryd.prog G75 := hg_nil
theorem okf75 : Ok Tryd.prog E75 := ok0.of Tryd.f75
theorem e75 (L : Lp) (R : Option Res → Prop) (xs ys : List (Elem ki)) : (bodyP E0 G75 L Tryd.f75 [.rsl ki xs, .rsl ki ys] [] R) = (
    br ((↑xs.length : Int) != (↑ys.length : Int)) (R (some { av := vB false, obs := [], outs := [] })) (LOOP75 L R 4 { tm := [AV.rsl ki xs, AV.rsl ki ys, vU, vU, vB false, vI 0, vJ, vJ, vJ, vJ, vJ, vJ, vJ, vJ, vJ, vJ, vJ, vJ, vJ, vJ, vJ, vJ, vJ, vJ, vJ, vJ], ob := [], nx := 1000000, ps := [] })) := by kernel_rfl
def st75 (xs ys : List (Elem ki)) (i : Int) : St :=  ⟨[AV.rsl ki xs, AV.rsl ki ys, vU, vU, vB false, .val (.int .i64 i), vJ, vJ, vJ, vJ, vJ, vJ, vJ, vJ, vJ, vJ, vJ, vJ, vJ, vJ, vJ, vJ, vJ, vJ, vJ, vJ], [], 1000000, []⟩
theorem b75 (L : Lp) (R : Option Res → Prop) (N : St → Prop) (xs ys : List (Elem ki)) (i : Int) : (evP E75 G75 L (lp75 4) (st75 xs ys i) (rk75 L R 4 N)) = (
    br (decide (i < (↑xs.length : Int))) (br (decide (0 ≤ i ∧ i < (↑xs.length : Int))) (br (decide (0 ≤ i ∧ i < (↑ys.length : Int))) (br ((xs.getD i.toNat (edflt ki)).fst != (ys.getD i.toNat (edflt ki)).fst) (R (some { av := vB false, obs := [], outs := [] })) (N { tm := [AV.rsl ki xs, AV.rsl ki ys, vU, vU, vB false, vI (IntKind.i64.wrap (i + 1)), vJ, vJ, vJ, vJ, vJ, vJ, vJ, vJ, vJ, vJ, vJ, vJ, vJ, vJ, vJ, vJ, vJ, vJ, vJ, vJ], ob := [], nx := 1000000, ps := [] })) False) False) (R (some { av := vB true, obs := [], outs := [] }))) := by kernel_rfl
theorem h75 : G1Ok Tryd.prog 75 g75 := by
  intro args obs k h
  unfold g75 at h
  split at h
  · rename_i k xs ys
    obtain ⟨hlen, h⟩ := brd h
    refine ⟨_, ctr_fn ok0 hg75 Tryd.func75 (by kernel_rfl) (by kernel_rfl) (by kernel_rfl) fun C => ?_, h⟩
    rw [e75]
    refine br_intro (fun hb => ?_) (fun hb => ?_)
    · show _ = _
      rw [show eqR ki xs ys = false from eqL_len (fun e => by rw [e] at hb; simp at hb)]
    have hl : xs.length = ys.length := by simp at hb; omega
    exact loopAll okf75 hg75 (fun i => st75 xs ys i) xs.length (fun i => elemEq ki (xs.getD i (edflt ki)) (ys.getD i (edflt ki))) (by omega) (fun N i hi hw next fails done => by
      show evP E75 G75 _ (lp75 4) (st75 xs ys i) (rk75 _ _ 4 _)
      rw [b75, hw, Int.toNat_natCast]
      refine br_dec (fun h2 => br_yes ⟨by omega, h2⟩ (br_yes ⟨by omega, by omega⟩ (br_not (fun h3 => ?_) (fun h3 => ?_)))) (fun h2 => ?_)
      · show _ = _
        rw [show eqR ki xs ys = false from (eqL_of hl).trans (fails (by omega) h3)]
      · exact next (by omega) h3
      · show _ = _
        rw [show eqR ki xs ys = true from (eqL_of hl).trans (done (by omega))])
  · exact h.elim
end Go.Proofs.YtljilcingbohkabDoor.Ev

