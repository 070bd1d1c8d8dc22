/- The law of BlkRead. -/
import Derived.Test.YtkjnijddbiconaaGreatDoorK4
namespace Go.Proofs.YtkjnijddbiconaaGreatDoor.Ev
open Go
set_option linter.unusedVariables false
set_option linter.unusedSimpArgs false
set_option maxRecDepth 100000
noncomputable def E81 : Env := E0.of Tryz.f81
noncomputable def G81 : Gk := gk [(109, g195), (149, g149), (150, g150)]
noncomputable def lp81 (n : Nat) : Code := (loopOf n (codeOf Tryz.f81)).getD .skip
noncomputable def ct81 (L : Lp) (R : Option Res → Prop) (n : Nat) : Kt := contOf E81 G81 L n (codeOf Tryz.f81) (endK E81 Tryz.f81.results.toList R)
noncomputable def rk81 (L : Lp) (R : Option Res → Prop) (n : Nat) (N : St → Prop) : Kt := rk (jof E81 (lp81 n)) N (ct81 L R n)
noncomputable def LOOP81 (L : Lp) (R : Option Res → Prop) (n : Nat) (st : St) : Prop := L (lp81 n) st (ct81 L R n)
theorem hg81 : HG Tryz.prog G81 := (hg_cons h109 (hg_cons h149 (hg_cons h150 hg_nil)))
theorem okf81 : Ok Tryz.prog E81 := ok0.of Tryz.f81
theorem e81 (L : Lp) (R : Option Res → Prop) (a b : List (Elem ks)) (c : List (Elem kl)) (x y z : Int) : (bodyP E0 G81 L Tryz.f81 [.agg [.rsl ks a, .rsl ks b, .rsl kl c], .agg [.val (.int .i64 x), .val (.int .i64 y), .val (.int .i64 z)]] [] R) = (
    br (ptrOk x y z) (br (x == 0) (R (some { av := AV.tup [vS { data := #[] }, vI 1], obs := [], outs := [] })) (LOOP81 L R 4 { tm := [AV.agg [AV.rsl ks a, AV.rsl ks b, AV.rsl kl c], AV.agg [vI x, vI y, vI z], AV.ptr 0 0, AV.ptr 1 0, vS { data := #[] }, vI 0, vI 0, vJ, vJ, vJ, vJ, vJ, vJ, vJ, vJ, vJ, vJ, vJ, vJ, vJ, vJ, vJ, vJ, vJ, vJ, vJ, vJ], ob := [(0, AO.box [AV.rsl ks a, AV.rsl ks b, AV.rsl kl c]), (1, AO.box [vI x, vI y, vI z])], nx := 1000000, ps := [] })) (LOOP81 L R 4 { tm := [AV.agg [AV.rsl ks a, AV.rsl ks b, AV.rsl kl c], AV.agg [vI x, vI y, vI z], AV.ptr 0 0, AV.ptr 1 0, vS { data := #[] }, vI 0, vI 0, vJ, vJ, vJ, vJ, vJ, vJ, vJ, vJ, vJ, vJ, vJ, vJ, vJ, vJ, vJ, vJ, vJ, vJ, vJ, vJ], ob := [(0, AO.box [AV.rsl ks a, AV.rsl ks b, AV.rsl kl c]), (1, AO.box [vI x, vI y, vI z])], nx := 1000000, ps := [] })) := by kernel_rfl
def st81a (a b : List (Elem ks)) (c : List (Elem kl)) (x y z : Int) (i : Int) : St :=  ⟨[AV.agg [AV.rsl ks a, AV.rsl ks b, AV.rsl kl c], AV.agg [vI x, vI y, vI z], AV.ptr 0 0, AV.ptr 1 0, vS { data := #[] }, vI 0, .val (.int .i64 i), vJ, vJ, vJ, vJ, vJ, vJ, vJ, vJ, vJ, vJ, vJ, vJ, vJ, vJ, vJ, vJ, vJ, vJ, vJ, vJ], [(0, AO.box [AV.rsl ks a, AV.rsl ks b, AV.rsl kl c]), (1, AO.box [vI x, vI y, vI z])], 1000000, []⟩
theorem b81a_0 (L : Lp) (R : Option Res → Prop) (N : St → Prop) (a b : List (Elem ks)) (c : List (Elem kl)) (x y z : Int) : (evP E81 G81 L (lp81 4) (st81a a b c x y z 0) (rk81 L R 4 N)) = (
    br (smD a b c) (br (sideD a b c x y z 0) (br (secOk a.length 0 x && (decide (b.length = a.length) && decide (c.length ≤ 1048576))) (R (some { av := AV.tup [vS (rdD a b c 0 x), vI 0], obs := [], outs := [] })) False) (N { tm := [AV.agg [AV.rsl ks a, AV.rsl ks b, AV.rsl kl c], AV.agg [vI x, vI y, vI z], AV.ptr 0 0, AV.ptr 1 0, vS { data := #[] }, vI 0, vI 1, vJ, vJ, vJ, vJ, vJ, vJ, vJ, vJ, vJ, vJ, vJ, vJ, vJ, vJ, vJ, vJ, vJ, vJ, vJ, vJ], ob := [(0, AO.box [AV.rsl ks a, AV.rsl ks b, AV.rsl kl c]), (1, AO.box [vI x, vI y, vI z])], nx := 1000000, ps := [] })) False) := by kernel_rfl
theorem b81a_1 (L : Lp) (R : Option Res → Prop) (N : St → Prop) (a b : List (Elem ks)) (c : List (Elem kl)) (x y z : Int) : (evP E81 G81 L (lp81 4) (st81a a b c x y z 1) (rk81 L R 4 N)) = (
    br (smD a b c) (br (sideD a b c x y z 1) (br (secOk a.length 1 x && (decide (b.length = a.length) && decide (c.length ≤ 1048576))) (R (some { av := AV.tup [vS (rdD a b c 1 x), vI 0], obs := [], outs := [] })) False) (N { tm := [AV.agg [AV.rsl ks a, AV.rsl ks b, AV.rsl kl c], AV.agg [vI x, vI y, vI z], AV.ptr 0 0, AV.ptr 1 0, vS { data := #[] }, vI 0, vI 2, vJ, vJ, vJ, vJ, vJ, vJ, vJ, vJ, vJ, vJ, vJ, vJ, vJ, vJ, vJ, vJ, vJ, vJ, vJ, vJ], ob := [(0, AO.box [AV.rsl ks a, AV.rsl ks b, AV.rsl kl c]), (1, AO.box [vI x, vI y, vI z])], nx := 1000000, ps := [] })) False) := by kernel_rfl
theorem b81a_2 (L : Lp) (R : Option Res → Prop) (N : St → Prop) (a b : List (Elem ks)) (c : List (Elem kl)) (x y z : Int) : (evP E81 G81 L (lp81 4) (st81a a b c x y z 2) (rk81 L R 4 N)) = (
    R (some { av := AV.tup [vS { data := #[] }, vI 2], obs := [], outs := [] })) := by kernel_rfl
def st81b (a b : List (Elem ks)) (c : List (Elem kl)) (x y z : Int) (i : Int) : St :=  ⟨[AV.agg [AV.rsl ks a, AV.rsl ks b, AV.rsl kl c], AV.agg [vI x, vI y, vI z], AV.ptr 0 0, AV.ptr 1 0, vS { data := #[] }, vI 0, .val (.int .i64 i), vJ, vJ, vJ, vJ, vJ, vJ, vJ, vJ, vJ, vJ, vJ, vJ, vJ, vJ, vJ, vJ, vJ, vJ, vJ, vJ], [(0, AO.box [AV.rsl ks a, AV.rsl ks b, AV.rsl kl c]), (1, AO.box [vI x, vI y, vI z])], 1000000, []⟩
theorem b81b_0 (L : Lp) (R : Option Res → Prop) (N : St → Prop) (a b : List (Elem ks)) (c : List (Elem kl)) (x y z : Int) : (evP E81 G81 L (lp81 4) (st81b a b c x y z 0) (rk81 L R 4 N)) = (
    br (smD a b c) (br (sideD a b c x y z 0) (br (secOk a.length 0 x && (decide (b.length = a.length) && decide (c.length ≤ 1048576))) (R (some { av := AV.tup [vS (rdD a b c 0 x), vI 0], obs := [], outs := [] })) False) (N { tm := [AV.agg [AV.rsl ks a, AV.rsl ks b, AV.rsl kl c], AV.agg [vI x, vI y, vI z], AV.ptr 0 0, AV.ptr 1 0, vS { data := #[] }, vI 0, vI 1, vJ, vJ, vJ, vJ, vJ, vJ, vJ, vJ, vJ, vJ, vJ, vJ, vJ, vJ, vJ, vJ, vJ, vJ, vJ, vJ], ob := [(0, AO.box [AV.rsl ks a, AV.rsl ks b, AV.rsl kl c]), (1, AO.box [vI x, vI y, vI z])], nx := 1000000, ps := [] })) False) := by kernel_rfl
theorem b81b_1 (L : Lp) (R : Option Res → Prop) (N : St → Prop) (a b : List (Elem ks)) (c : List (Elem kl)) (x y z : Int) : (evP E81 G81 L (lp81 4) (st81b a b c x y z 1) (rk81 L R 4 N)) = (
    br (smD a b c) (br (sideD a b c x y z 1) (br (secOk a.length 1 x && (decide (b.length = a.length) && decide (c.length ≤ 1048576))) (R (some { av := AV.tup [vS (rdD a b c 1 x), vI 0], obs := [], outs := [] })) False) (N { tm := [AV.agg [AV.rsl ks a, AV.rsl ks b, AV.rsl kl c], AV.agg [vI x, vI y, vI z], AV.ptr 0 0, AV.ptr 1 0, vS { data := #[] }, vI 0, vI 2, vJ, vJ, vJ, vJ, vJ, vJ, vJ, vJ, vJ, vJ, vJ, vJ, vJ, vJ, vJ, vJ, vJ, vJ, vJ, vJ], ob := [(0, AO.box [AV.rsl ks a, AV.rsl ks b, AV.rsl kl c]), (1, AO.box [vI x, vI y, vI z])], nx := 1000000, ps := [] })) False) := by kernel_rfl
theorem b81b_2 (L : Lp) (R : Option Res → Prop) (N : St → Prop) (a b : List (Elem ks)) (c : List (Elem kl)) (x y z : Int) : (evP E81 G81 L (lp81 4) (st81b a b c x y z 2) (rk81 L R 4 N)) = (
    R (some { av := AV.tup [vS { data := #[] }, vI 2], obs := [], outs := [] })) := by kernel_rfl
def rdBlk (a b : List (Elem ks)) (c : List (Elem kl)) (x y z : Int) : ByteArray × Int := match ptrOk x y z && x == 0 with
  | true => (ByteArray.empty, 1)
  | false => match sideD a b c x y z 0 with
    | true => (rdD a b c 0 x, 0)
    | false => match sideD a b c x y z 1 with
      | true => (rdD a b c 1 x, 0)
      | false => (ByteArray.empty, 2)
def g81 : G1
  | [.agg [.rsl [.str] a, .rsl [.str] b, .rsl [.int .i64, .int .i64, .str] c], .agg [.val (.int .i64 x), .val (.int .i64 y), .val (.int .i64 z)]], [], k =>
    br (smD a b c) (k ⟨.tup [.val (.string (rdBlk a b c x y z).1), .val (.int .i64 (rdBlk a b c x y z).2)], [], []⟩) False
  | _, _, _ => False
theorem side_pre {a b : List (Elem ks)} {c : List (Elem kl)} {x y z s : Int} (h : sideD a b c x y z s = true) : dkOk a b c = true ∧ (secOk a.length s x && (decide (b.length = a.length) && decide (c.length ≤ 1048576))) = true := by
  unfold sideD hasD at h
  simp only [Bool.and_eq_true] at h
  obtain ⟨⟨h1, h2⟩, h3, h4⟩ := h
  obtain ⟨q1, q2, q3⟩ := dkOk_b h1
  refine ⟨h1, ?_⟩
  rw [h3, q1]
  simp
  omega
theorem h81 : G1Ok Tryz.prog 81 g81 := by
  intro args obs k h
  unfold g81 at h
  split at h
  · rename_i k a b c x y z
    obtain ⟨hp, h⟩ := br_and h
    refine ⟨_, ctr_fn ok0 hg81 Tryz.func81 (by kernel_rfl) (by kernel_rfl) (by kernel_rfl) fun C => ?_, h⟩
    rw [e81]
    refine br_intro (fun h1 => br_intro (fun h2 => ?_) (fun h2 => ?_)) (fun h1 => ?_)
    · show _ = _
      unfold rdBlk
      rw [h1, h2]
      rfl
    · have e0 : (ptrOk x y z && x == 0) = false := by rw [h1, h2]; rfl
      refine loopUp okf81 hg81 (α := Unit) (fun i _ => st81a a b c x y z i) 2 (fun i _ => (0 < i → sideD a b c x y z 0 = false) ∧ (1 < i → sideD a b c x y z 1 = false)) (fun N i _ hi ⟨h3, h4⟩ next => ?_) () ⟨by omega, by omega⟩
      have cs : i = 0 ∨ i = 1 ∨ i = 2 := by omega
      rcases cs with rfl | rfl | rfl
      · show evP E81 G81 _ (lp81 4) (st81a a b c x y z 0) (rk81 _ _ 4 _)
        rw [b81a_0]
        refine br_t hp (br_intro (fun h5 => br_t (side_pre h5).2 ?_) (fun h5 => next (by omega) () ⟨fun _ => h5, by omega⟩))
        show _ = _
        unfold rdBlk
        rw [e0, h5]
      · show evP E81 G81 _ (lp81 4) (st81a a b c x y z 1) (rk81 _ _ 4 _)
        rw [b81a_1]
        refine br_t hp (br_intro (fun h5 => br_t (side_pre h5).2 ?_) (fun h5 => next (by omega) () ⟨fun _ => h3 (by omega), fun _ => h5⟩))
        show _ = _
        unfold rdBlk
        rw [e0, h3 (by omega), h5]
      · show evP E81 G81 _ (lp81 4) (st81a a b c x y z 2) (rk81 _ _ 4 _)
        rw [b81a_2]
        show _ = _
        unfold rdBlk
        rw [e0, h3 (by omega), h4 (by omega)]
        rfl
    · have e0 : (ptrOk x y z && x == 0) = false := by rw [h1]; rfl
      refine loopUp okf81 hg81 (α := Unit) (fun i _ => st81b a b c x y z i) 2 (fun i _ => (0 < i → sideD a b c x y z 0 = false) ∧ (1 < i → sideD a b c x y z 1 = false)) (fun N i _ hi ⟨h3, h4⟩ next => ?_) () ⟨by omega, by omega⟩
      have cs : i = 0 ∨ i = 1 ∨ i = 2 := by omega
      rcases cs with rfl | rfl | rfl
      · show evP E81 G81 _ (lp81 4) (st81b a b c x y z 0) (rk81 _ _ 4 _)
        rw [b81b_0]
        refine br_t hp (br_intro (fun h5 => br_t (side_pre h5).2 ?_) (fun h5 => next (by omega) () ⟨fun _ => h5, by omega⟩))
        show _ = _
        unfold rdBlk
        rw [e0, h5]
      · show evP E81 G81 _ (lp81 4) (st81b a b c x y z 1) (rk81 _ _ 4 _)
        rw [b81b_1]
        refine br_t hp (br_intro (fun h5 => br_t (side_pre h5).2 ?_) (fun h5 => next (by omega) () ⟨fun _ => h3 (by omega), fun _ => h5⟩))
        show _ = _
        unfold rdBlk
        rw [e0, h3 (by omega), h5]
      · show evP E81 G81 _ (lp81 4) (st81b a b c x y z 2) (rk81 _ _ 4 _)
        rw [b81b_2]
        show _ = _
        unfold rdBlk
        rw [e0, h3 (by omega), h4 (by omega)]
        rfl
  · exact h.elim
noncomputable def E48 : Env := E0.of Tryz.f48
noncomputable def G48 : Gk := gk [(84, g84), (121, g121), (122, g122), (123, g150)]
noncomputable def lp48 (n : Nat) : Code := (loopOf n (codeOf Tryz.f48)).getD .skip
noncomputable def ct48 (L : Lp) (R : Option Res → Prop) (n : Nat) : Kt := contOf E48 G48 L n (codeOf Tryz.f48) (endK E48 Tryz.f48.results.toList R)
noncomputable def rk48 (L : Lp) (R : Option Res → Prop) (n : Nat) (N : St → Prop) : Kt := rk (jof E48 (lp48 n)) N (ct48 L R n)
noncomputable def LOOP48 (L : Lp) (R : Option Res → Prop) (n : Nat) (st : St) : Prop := L (lp48 n) st (ct48 L R n)
theorem hg48 : HG Tryz.prog G48 := (hg_cons h84 (hg_cons h121 (hg_cons h122 (hg_cons h123 hg_nil))))
theorem okf48 : Ok Tryz.prog E48 := ok0.of Tryz.f48
theorem e48 (L : Lp) (R : Option Res → Prop) (a b : List (Elem ks)) (c : List (Elem kl)) (x y z : Int) : (bodyP E0 G48 L Tryz.f48 [.agg [.rsl ks a, .rsl ks b, .rsl kl c], .agg [.val (.int .i64 x), .val (.int .i64 y), .val (.int .i64 z)]] [] R) = (
    br (elemEq k3 (x, y, z, ()) (0, 0, 0, ())) (R (some { av := AV.tup [vS { data := #[] }, vI 1], obs := [], outs := [] })) (br (smD a b c) (br (dkOk a b c) (br (realP x y z) (LOOP48 L R 5 { tm := [AV.agg [AV.rsl ks a, AV.rsl ks b, AV.rsl kl c], AV.agg [vI x, vI y, vI z], AV.ptr 0 0, AV.ptr 1 0, vS { data := #[] }, vI 0, vJ, vJ, vJ, vJ, vJ, vJ, vJ, vJ, vJ, vJ, vI 0, vJ, vJ, vJ, vJ, vJ, vJ, vJ, vJ, vJ, vJ, vJ, vJ], ob := [(0, AO.box [AV.rsl ks a, AV.rsl ks b, AV.rsl kl c]), (1, AO.box [vI x, vI y, vI z])], nx := 1000000, ps := [] }) (R (some { av := AV.tup [vS { data := #[] }, vI 2], obs := [], outs := [] }))) (R (some { av := AV.tup [vS { data := #[] }, vI 2], obs := [], outs := [] }))) False)) := by kernel_rfl
def st48 (a b : List (Elem ks)) (c : List (Elem kl)) (x y z : Int) (i : Int) : St :=  ⟨[AV.agg [AV.rsl ks a, AV.rsl ks b, AV.rsl kl c], AV.agg [vI x, vI y, vI z], AV.ptr 0 0, AV.ptr 1 0, vS { data := #[] }, vI 0, vJ, vJ, vJ, vJ, vJ, vJ, vJ, vJ, vJ, vJ, .val (.int .i64 i), vJ, vJ, vJ, vJ, vJ, vJ, vJ, vJ, vJ, vJ, vJ, vJ], [(0, AO.box [AV.rsl ks a, AV.rsl ks b, AV.rsl kl c]), (1, AO.box [vI x, vI y, vI z])], 1000000, []⟩
theorem b48_0 (L : Lp) (R : Option Res → Prop) (N : St → Prop) (a b : List (Elem ks)) (c : List (Elem kl)) (x y z : Int) : (evP E48 G48 L (lp48 5) (st48 a b c x y z 0) (rk48 L R 5 N)) = (
    br (dkOk a b c) (br (hasD a b c x y 0) (br (secOk a.length 0 x && (decide (b.length = a.length) && decide (c.length ≤ 1048576))) (R (some { av := AV.tup [vS (rdD a b c 0 x), vI 0], obs := [], outs := [] })) False) (N { tm := [AV.agg [AV.rsl ks a, AV.rsl ks b, AV.rsl kl c], AV.agg [vI x, vI y, vI z], AV.ptr 0 0, AV.ptr 1 0, vS { data := #[] }, vI 0, vJ, vJ, vJ, vJ, vJ, vJ, vJ, vJ, vJ, vJ, vI 1, vJ, vJ, vJ, vJ, vJ, vJ, vJ, vJ, vJ, vJ, vJ, vJ], ob := [(0, AO.box [AV.rsl ks a, AV.rsl ks b, AV.rsl kl c]), (1, AO.box [vI x, vI y, vI z])], nx := 1000000, ps := [] })) False) := by kernel_rfl
theorem b48_1 (L : Lp) (R : Option Res → Prop) (N : St → Prop) (a b : List (Elem ks)) (c : List (Elem kl)) (x y z : Int) : (evP E48 G48 L (lp48 5) (st48 a b c x y z 1) (rk48 L R 5 N)) = (
    br (dkOk a b c) (br (hasD a b c x y 1) (br (secOk a.length 1 x && (decide (b.length = a.length) && decide (c.length ≤ 1048576))) (R (some { av := AV.tup [vS (rdD a b c 1 x), vI 0], obs := [], outs := [] })) False) (N { tm := [AV.agg [AV.rsl ks a, AV.rsl ks b, AV.rsl kl c], AV.agg [vI x, vI y, vI z], AV.ptr 0 0, AV.ptr 1 0, vS { data := #[] }, vI 0, vJ, vJ, vJ, vJ, vJ, vJ, vJ, vJ, vJ, vJ, vI 2, vJ, vJ, vJ, vJ, vJ, vJ, vJ, vJ, vJ, vJ, vJ, vJ], ob := [(0, AO.box [AV.rsl ks a, AV.rsl ks b, AV.rsl kl c]), (1, AO.box [vI x, vI y, vI z])], nx := 1000000, ps := [] })) False) := by kernel_rfl
theorem b48_2 (L : Lp) (R : Option Res → Prop) (N : St → Prop) (a b : List (Elem ks)) (c : List (Elem kl)) (x y z : Int) : (evP E48 G48 L (lp48 5) (st48 a b c x y z 2) (rk48 L R 5 N)) = (
    R (some { av := AV.tup [vS { data := #[] }, vI 2], obs := [], outs := [] })) := by kernel_rfl
theorem ptr0 {x y z : Int} : elemEq [CK.int .i64, CK.int .i64, CK.int .i64] (x, y, z, ()) (0, 0, 0, ()) = (ptrOk x y z && x == 0) := by
  show (x == 0 && (y == 0 && z == 0)) = (ptrOk x y z && x == 0)
  unfold ptrOk
  cases hx : x == 0 with
  | false => simp
  | true =>
    have : x = 0 := by simpa using hx
    subst this
    simp
theorem h48 : G1Ok Tryz.prog 48 g81 := by
  intro args obs k h
  unfold g81 at h
  split at h
  · rename_i k a b c x y z
    obtain ⟨hp, h⟩ := br_and h
    refine ⟨_, ctr_fn ok0 hg48 Tryz.func48 (by kernel_rfl) (by kernel_rfl) (by kernel_rfl) fun C => ?_, h⟩
    rw [e48]
    refine br_intro (fun h1 => ?_) (fun h1 => br_t hp (br_intro (fun h2 => br_intro (fun h3 => ?_) (fun h3 => ?_)) (fun h2 => ?_)))
    · have h1' := h1
      rw [ptr0] at h1'
      show _ = _
      unfold rdBlk
      rw [h1']
      rfl
    · have e0 := h1
      rw [ptr0] at e0
      have es : ∀ s, sideD a b c x y z s = hasD a b c x y s := by
        intro s
        unfold sideD
        rw [h2, h3]
        rfl
      refine loopUp okf48 hg48 (α := Unit) (fun i _ => st48 a b c x y z i) 2 (fun i _ => (0 < i → sideD a b c x y z 0 = false) ∧ (1 < i → sideD a b c x y z 1 = false)) (fun N i _ hi ⟨h3, h4⟩ next => ?_) () ⟨by omega, by omega⟩
      have cs : i = 0 ∨ i = 1 ∨ i = 2 := by omega
      rcases cs with rfl | rfl | rfl
      · show evP E48 G48 _ (lp48 5) (st48 a b c x y z 0) (rk48 _ _ 5 _)
        rw [b48_0]
        refine br_t h2 (br_intro (fun h5 => ?_) (fun h5 => ?_)) <;> rw [← es] at h5
        · refine br_t (side_pre h5).2 ?_
          show _ = _
          unfold rdBlk
          rw [e0, h5]
        · exact next (by omega) () ⟨fun _ => h5, by omega⟩
      · show evP E48 G48 _ (lp48 5) (st48 a b c x y z 1) (rk48 _ _ 5 _)
        rw [b48_1]
        refine br_t h2 (br_intro (fun h5 => ?_) (fun h5 => ?_)) <;> rw [← es] at h5
        · refine br_t (side_pre h5).2 ?_
          show _ = _
          unfold rdBlk
          rw [e0, h3 (by omega), h5]
        · exact next (by omega) () ⟨fun _ => h3 (by omega), fun _ => h5⟩
      · show evP E48 G48 _ (lp48 5) (st48 a b c x y z 2) (rk48 _ _ 5 _)
        rw [b48_2]
        show _ = _
        unfold rdBlk
        rw [e0, h3 (by omega), h4 (by omega)]
        rfl
    · rw [ptr0] at h1
      show _ = _
      unfold rdBlk sideD
      rw [h1, h3, Bool.and_false]
      rfl
    · rw [ptr0] at h1
      show _ = _
      unfold rdBlk sideD
      rw [h1, h2]
      rfl
  · exact h.elim
end Go.Proofs.YtkjnijddbiconaaGreatDoor.Ev
