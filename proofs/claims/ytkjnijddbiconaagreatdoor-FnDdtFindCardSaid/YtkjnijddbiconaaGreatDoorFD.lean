/- The law of DdtFind. -/
import Derived.Test.YtkjnijddbiconaaGreatDoorK5
import Derived.Test.YtkjnijddbiconaaGreatDoorD5
namespace Go.Proofs.YtkjnijddbiconaaGreatDoor.Ev
open Go
set_option linter.unusedVariables false
set_option linter.unusedSimpArgs false
set_option maxRecDepth 100000
def fndP (a b : List (Elem ks)) (c : List (Elem kl)) (xs : List (Elem k3)) (t : ByteArray) (i : Nat) : Bool :=
  (at3 xs i).1 == sumN t && ((rdBlk a b c (at3 xs i).2.1 (sumN t) 0).2 == 0 && strEq (rdBlk a b c (at3 xs i).2.1 (sumN t) 0).1 t)
def fndR (a b : List (Elem ks)) (c : List (Elem kl)) (xs : List (Elem k3)) (t : ByteArray) : Int := match ddtOk xs with
  | false => 0
  | true => match fd xs.length (fndP a b c xs t) with
    | some i => (at3 xs i).2.1
    | none => 0
def g43 : G1
  | [.agg [.rsl [.str] a, .rsl [.str] b, .rsl [.int .i64, .int .i64, .str] c], .rsl [.int .i64, .int .i64, .int .i64] xs, .val (.string t)], [], k =>
    br (smD a b c && (decide (xs.length ≤ 1048576) && decide (t.size ≤ 4611686018427387904))) (k ⟨.val (.int .i64 (fndR a b c xs t)), [], []⟩) False
  | _, _, _ => False
noncomputable def E43 : Env := E0.of Tryz.f43
noncomputable def G43 : Gk := gk [(116, g116), (46, g112), (81, g81)]
noncomputable def lp43 (n : Nat) : Code := (loopOf n (codeOf Tryz.f43)).getD .skip
noncomputable def ct43 (L : Lp) (R : Option Res → Prop) (n : Nat) : Kt := contOf E43 G43 L n (codeOf Tryz.f43) (endK E43 Tryz.f43.results.toList R)
noncomputable def rk43 (L : Lp) (R : Option Res → Prop) (n : Nat) (N : St → Prop) : Kt := rk (jof E43 (lp43 n)) N (ct43 L R n)
noncomputable def LOOP43 (L : Lp) (R : Option Res → Prop) (n : Nat) (st : St) : Prop := L (lp43 n) st (ct43 L R n)
theorem hg43 : HG Tryz.prog G43 := (hg_cons h116 (hg_cons h46 (hg_cons h81 hg_nil)))
theorem okf43 : Ok Tryz.prog E43 := ok0.of Tryz.f43
theorem e43 (L : Lp) (R : Option Res → Prop) (a b : List (Elem ks)) (c : List (Elem kl)) (xs : List (Elem k3)) (t : ByteArray) : (bodyP E0 G43 L Tryz.f43 [.agg [.rsl ks a, .rsl ks b, .rsl kl c], .rsl k3 xs, .val (.string t)] [] R) = (
    br (decide (t.size ≤ 4611686018427387904)) (LOOP43 L R 3 { tm := [AV.agg [AV.rsl ks a, AV.rsl ks b, AV.rsl kl c], AV.rsl k3 xs, vS t, AV.ptr 0 0, vU, vU, vI 0, vI (sumN t), vI 0, vJ, vJ, vJ, vJ, vJ, vJ, vJ, vJ, vJ, vJ, vJ, vJ, vJ, vJ, vJ, vJ, vJ, vJ, vJ, vJ, vJ, vJ, vJ, vJ, vJ, vJ, vJ, vJ, vJ, vJ, vJ, vJ, vJ, vJ, vJ, vJ, vJ, vJ, vJ, vJ, vJ, vJ, vJ, vJ, vJ], ob := [(0, AO.box [AV.rsl ks a, AV.rsl ks b, AV.rsl kl c])], nx := 1000000, ps := [] }) False) := by kernel_rfl
def st43 (a b : List (Elem ks)) (c : List (Elem kl)) (xs : List (Elem k3)) (t : ByteArray) (i : Int) : St :=  ⟨[AV.agg [AV.rsl ks a, AV.rsl ks b, AV.rsl kl c], AV.rsl k3 xs, vS t, AV.ptr 0 0, vU, vU, vI 0, vI (sumN t), .val (.int .i64 i), vJ, vJ, vJ, vJ, vJ, vJ, vJ, vJ, vJ, vJ, vJ, vJ, vJ, vJ, vJ, vJ, vJ, vJ, vJ, vJ, vJ, vJ, vJ, vJ, vJ, vJ, vJ, vJ, vJ, vJ, vJ, vJ, vJ, vJ, vJ, vJ, vJ, vJ, vJ, vJ, vJ, vJ, vJ, vJ, vJ], [(0, AO.box [AV.rsl ks a, AV.rsl ks b, AV.rsl kl c])], 1000000, []⟩
theorem b43 (L : Lp) (R : Option Res → Prop) (N : St → Prop) (a b : List (Elem ks)) (c : List (Elem kl)) (xs : List (Elem k3)) (t : ByteArray) (i : Int) : (evP E43 G43 L (lp43 3) (st43 a b c xs t i) (rk43 L R 3 N)) = (
    br (decide (xs.length ≤ 1048576)) (br (ddtOk xs) (br (decide (i < (↑xs.length : Int))) (br (decide (0 ≤ i ∧ i < (↑xs.length : Int))) (br ((xs.getD i.toNat (edflt k3)).fst == sumN t) (br (decide (0 ≤ i ∧ i < (↑xs.length : Int))) (br (smD a b c) (br ((rdBlk a b c (xs.getD i.toNat (edflt k3)).snd.fst (sumN t) 0).snd == 0) (br (strEq (rdBlk a b c (xs.getD i.toNat (edflt k3)).snd.fst (sumN t) 0).fst t) (br (decide (0 ≤ i ∧ i < (↑xs.length : Int))) (R (some { av := vI (xs.getD i.toNat (edflt k3)).snd.fst, obs := [], outs := [] })) False) (N { tm := [AV.agg [AV.rsl ks a, AV.rsl ks b, AV.rsl kl c], AV.rsl k3 xs, vS t, AV.ptr 0 0, vU, vU, vI 0, vI (sumN t), vI (IntKind.i64.wrap (i + 1)), vJ, vJ, vJ, vJ, vJ, vJ, vJ, vJ, vJ, vJ, vJ, vJ, vJ, vJ, vJ, vJ, vJ, vJ, vJ, vJ, vJ, vJ, vJ, vJ, vJ, vJ, vJ, vJ, vJ, vJ, vJ, vJ, vJ, vJ, vJ, vJ, vJ, vJ, vJ, vJ, vJ, vJ, vJ, vJ, vJ], ob := [(0, AO.box [AV.rsl ks a, AV.rsl ks b, AV.rsl kl c])], nx := 1000000, ps := [] })) (N { tm := [AV.agg [AV.rsl ks a, AV.rsl ks b, AV.rsl kl c], AV.rsl k3 xs, vS t, AV.ptr 0 0, vU, vU, vI 0, vI (sumN t), vI (IntKind.i64.wrap (i + 1)), vJ, vJ, vJ, vJ, vJ, vJ, vJ, vJ, vJ, vJ, vJ, vJ, vJ, vJ, vJ, vJ, vJ, vJ, vJ, vJ, vJ, vJ, vJ, vJ, vJ, vJ, vJ, vJ, vJ, vJ, vJ, vJ, vJ, vJ, vJ, vJ, vJ, vJ, vJ, vJ, vJ, vJ, vJ, vJ, vJ], ob := [(0, AO.box [AV.rsl ks a, AV.rsl ks b, AV.rsl kl c])], nx := 1000000, ps := [] })) False) False) (N { tm := [AV.agg [AV.rsl ks a, AV.rsl ks b, AV.rsl kl c], AV.rsl k3 xs, vS t, AV.ptr 0 0, vU, vU, vI 0, vI (sumN t), vI (IntKind.i64.wrap (i + 1)), vJ, vJ, vJ, vJ, vJ, vJ, vJ, vJ, vJ, vJ, vJ, vJ, vJ, vJ, vJ, vJ, vJ, vJ, vJ, vJ, vJ, vJ, vJ, vJ, vJ, vJ, vJ, vJ, vJ, vJ, vJ, vJ, vJ, vJ, vJ, vJ, vJ, vJ, vJ, vJ, vJ, vJ, vJ, vJ, vJ], ob := [(0, AO.box [AV.rsl ks a, AV.rsl ks b, AV.rsl kl c])], nx := 1000000, ps := [] })) False) (R (some { av := vI 0, obs := [], outs := [] }))) (R (some { av := vI 0, obs := [], outs := [] }))) False) := by kernel_rfl
theorem h43 : G1Ok Tryz.prog 43 g43 := by
  intro args obs k h
  unfold g43 at h
  split at h
  · rename_i k a b c xs t
    obtain ⟨hd, hx, h⟩ := brb2 h
    rw [Bool.and_eq_true] at hx
    have hx1 := of_decide_eq_true hx.1
    refine ⟨_, ctr_fn ok0 hg43 Tryz.func43 (by kernel_rfl) (by kernel_rfl) (by kernel_rfl) fun C => ?_, h⟩
    rw [e43]
    refine br_t hx.2 ?_
    refine loopFd okf43 hg43 (fun i => st43 a b c xs t i) xs.length (fndP a b c xs t) (by omega) (fun N i hi hw next found none => ?_)
    show evP E43 G43 _ (lp43 3) (st43 a b c xs t i) (rk43 _ _ 3 _)
    rw [b43, hw, Int.toNat_natCast]
    have hp : fndP a b c xs t i = ((xs.getD i (edflt k3)).1 == sumN t && ((rdBlk a b c (xs.getD i (edflt k3)).2.1 (sumN t) 0).2 == 0 && strEq (rdBlk a b c (xs.getD i (edflt k3)).2.1 (sumN t) 0).1 t)) := rfl
    refine br_t hx.1 (br_intro (fun h1 => br_dec (fun h2 => br_yes ⟨by omega, h2⟩ (br_intro (fun h3 => br_yes ⟨by omega, h2⟩ (br_t hd (br_intro (fun h4 => br_intro (fun h5 => br_yes ⟨by omega, h2⟩ ?_) (fun h5 => ?_)) (fun h4 => ?_)))) (fun h3 => ?_))) (fun h2 => ?_)) (fun h1 => ?_))
    · show _ = _
      unfold fndR
      rw [h1, found (by omega) (by rw [hp, h3, h4, h5]; rfl)]
      rfl
    · exact next (by omega) (by rw [hp, h5]; simp)
    · exact next (by omega) (by rw [hp, h4]; simp)
    · exact next (by omega) (by rw [hp, h3]; simp)
    · show _ = _
      unfold fndR
      rw [h1, none (by omega)]
    · show _ = _
      unfold fndR
      rw [h1]
  · exact h.elim
noncomputable def E42 : Env := E0.of Tryz.f42
noncomputable def G42 : Gk := gk [(115, g116), (112, g112), (48, g81)]
noncomputable def lp42 (n : Nat) : Code := (loopOf n (codeOf Tryz.f42)).getD .skip
noncomputable def ct42 (L : Lp) (R : Option Res → Prop) (n : Nat) : Kt := contOf E42 G42 L n (codeOf Tryz.f42) (endK E42 Tryz.f42.results.toList R)
noncomputable def rk42 (L : Lp) (R : Option Res → Prop) (n : Nat) (N : St → Prop) : Kt := rk (jof E42 (lp42 n)) N (ct42 L R n)
noncomputable def LOOP42 (L : Lp) (R : Option Res → Prop) (n : Nat) (st : St) : Prop := L (lp42 n) st (ct42 L R n)
theorem hg42 : HG Tryz.prog G42 := (hg_cons h115 (hg_cons h112 (hg_cons h48 hg_nil)))
theorem okf42 : Ok Tryz.prog E42 := ok0.of Tryz.f42
theorem e42 (L : Lp) (R : Option Res → Prop) (a b : List (Elem ks)) (c : List (Elem kl)) (xs : List (Elem k3)) (t : ByteArray) : (bodyP E0 G42 L Tryz.f42 [.agg [.rsl ks a, .rsl ks b, .rsl kl c], .rsl k3 xs, .val (.string t)] [] R) = (
    br (decide (xs.length ≤ 1048576)) (br (!ddtOk xs) (R (some { av := vI 0, obs := [], outs := [] })) (br (decide (t.size ≤ 4611686018427387904)) (LOOP42 L R 5 { tm := [AV.agg [AV.rsl ks a, AV.rsl ks b, AV.rsl kl c], AV.rsl k3 xs, vS t, AV.ptr 0 0, vU, vU, vI 0, vI (sumN t), vU, vJ, vJ, vJ, vJ, vJ, vJ, vJ, vJ, AV.rsl k3 xs, vI (↑xs.length : Int), vI 0, vJ, vJ, vJ, vJ, vJ, vJ, vJ, vJ, vJ, vJ, vJ, vJ, vJ, vJ, vJ, vJ, vJ, vJ, vJ, vJ, vJ, vJ, vJ, vJ, vJ, vJ, vJ], ob := [(0, AO.box [AV.rsl ks a, AV.rsl ks b, AV.rsl kl c])], nx := 1000000, ps := [] }) False)) False) := by kernel_rfl
def st42 (a b : List (Elem ks)) (c : List (Elem kl)) (xs : List (Elem k3)) (t : ByteArray) (i : Int) : St :=  ⟨[AV.agg [AV.rsl ks a, AV.rsl ks b, AV.rsl kl c], AV.rsl k3 xs, vS t, AV.ptr 0 0, vU, vU, vI 0, vI (sumN t), vU, vJ, vJ, vJ, vJ, vJ, vJ, vJ, vJ, AV.rsl k3 xs, vI (↑xs.length : Int), .val (.int .i64 i), vJ, vJ, vJ, vJ, vJ, vJ, vJ, vJ, vJ, vJ, vJ, vJ, vJ, vJ, vJ, vJ, vJ, vJ, vJ, vJ, vJ, vJ, vJ, vJ, vJ, vJ, vJ], [(0, AO.box [AV.rsl ks a, AV.rsl ks b, AV.rsl kl c])], 1000000, []⟩
theorem b42 (L : Lp) (R : Option Res → Prop) (N : St → Prop) (a b : List (Elem ks)) (c : List (Elem kl)) (xs : List (Elem k3)) (t : ByteArray) (i : Int) : (evP E42 G42 L (lp42 5) (st42 a b c xs t i) (rk42 L R 5 N)) = (
    br (decide (i < (↑xs.length : Int))) (br (decide (0 ≤ i ∧ i < (↑xs.length : Int))) (br ((xs.getD i.toNat (edflt k3)).fst != sumN t) (N { tm := [AV.agg [AV.rsl ks a, AV.rsl ks b, AV.rsl kl c], AV.rsl k3 xs, vS t, AV.ptr 0 0, vU, vU, vI 0, vI (sumN t), vU, vJ, vJ, vJ, vJ, vJ, vJ, vJ, vJ, AV.rsl k3 xs, vI (↑xs.length : Int), vI (IntKind.i64.wrap (i + 1)), vJ, vJ, vJ, vJ, vJ, vJ, vJ, vJ, vJ, vJ, vJ, vJ, vJ, vJ, vJ, vJ, vJ, vJ, vJ, vJ, vJ, vJ, vJ, vJ, vJ, vJ, vJ], ob := [(0, AO.box [AV.rsl ks a, AV.rsl ks b, AV.rsl kl c])], nx := 1000000, ps := [] }) (br (smD a b c) (br ((rdBlk a b c (xs.getD i.toNat (edflt k3)).snd.fst (xs.getD i.toNat (edflt k3)).fst 0).snd == 0) (br (strEq (rdBlk a b c (xs.getD i.toNat (edflt k3)).snd.fst (xs.getD i.toNat (edflt k3)).fst 0).fst t) (R (some { av := vI (xs.getD i.toNat (edflt k3)).snd.fst, obs := [], outs := [] })) (N { tm := [AV.agg [AV.rsl ks a, AV.rsl ks b, AV.rsl kl c], AV.rsl k3 xs, vS t, AV.ptr 0 0, vU, vU, vI 0, vI (sumN t), vU, vJ, vJ, vJ, vJ, vJ, vJ, vJ, vJ, AV.rsl k3 xs, vI (↑xs.length : Int), vI (IntKind.i64.wrap (i + 1)), vJ, vJ, vJ, vJ, vJ, vJ, vJ, vJ, vJ, vJ, vJ, vJ, vJ, vJ, vJ, vJ, vJ, vJ, vJ, vJ, vJ, vJ, vJ, vJ, vJ, vJ, vJ], ob := [(0, AO.box [AV.rsl ks a, AV.rsl ks b, AV.rsl kl c])], nx := 1000000, ps := [] })) (N { tm := [AV.agg [AV.rsl ks a, AV.rsl ks b, AV.rsl kl c], AV.rsl k3 xs, vS t, AV.ptr 0 0, vU, vU, vI 0, vI (sumN t), vU, vJ, vJ, vJ, vJ, vJ, vJ, vJ, vJ, AV.rsl k3 xs, vI (↑xs.length : Int), vI (IntKind.i64.wrap (i + 1)), vJ, vJ, vJ, vJ, vJ, vJ, vJ, vJ, vJ, vJ, vJ, vJ, vJ, vJ, vJ, vJ, vJ, vJ, vJ, vJ, vJ, vJ, vJ, vJ, vJ, vJ, vJ], ob := [(0, AO.box [AV.rsl ks a, AV.rsl ks b, AV.rsl kl c])], nx := 1000000, ps := [] })) False)) False) (R (some { av := vI 0, obs := [], outs := [] }))) := by kernel_rfl
theorem h42 : G1Ok Tryz.prog 42 g43 := by
  intro args obs k h
  unfold g43 at h
  split at h
  · rename_i k a b c xs t
    obtain ⟨hd, hx, h⟩ := brb2 h
    rw [Bool.and_eq_true] at hx
    have hx1 := of_decide_eq_true hx.1
    refine ⟨_, ctr_fn ok0 hg42 Tryz.func42 (by kernel_rfl) (by kernel_rfl) (by kernel_rfl) fun C => ?_, h⟩
    rw [e42]
    refine br_t hx.1 (br_not (fun h1 => ?_) (fun h1 => br_t hx.2 ?_))
    · show _ = _
      unfold fndR
      rw [h1]
    refine loopFd okf42 hg42 (fun i => st42 a b c xs t i) xs.length (fndP a b c xs t) (by omega) (fun N i hi hw next found none => ?_)
    show evP E42 G42 _ (lp42 5) (st42 a b c xs t i) (rk42 _ _ 5 _)
    rw [b42, hw, Int.toNat_natCast]
    have hp : fndP a b c xs t i = ((xs.getD i (edflt k3)).1 == sumN t && ((rdBlk a b c (xs.getD i (edflt k3)).2.1 (sumN t) 0).2 == 0 && strEq (rdBlk a b c (xs.getD i (edflt k3)).2.1 (sumN t) 0).1 t)) := rfl
    refine br_dec (fun h2 => br_yes ⟨by omega, h2⟩ (br_intro (fun h3 => ?_) (fun h3 => ?_))) (fun h2 => ?_)
    · have h3' : ((xs.getD i (edflt k3)).1 == sumN t) = false := by
        rw [bne, Bool.not_eq_true'] at h3
        exact h3
      exact next (by omega) (by rw [hp, h3']; rfl)
    · have h3' : ((xs.getD i (edflt k3)).1 == sumN t) = true := by
        rw [bne, Bool.not_eq_false'] at h3
        exact h3
      have e : (xs.getD i (edflt k3)).1 = sumN t := by simpa using h3'
      rw [e]
      refine br_t hd (br_intro (fun h4 => br_intro (fun h5 => ?_) (fun h5 => ?_)) (fun h4 => ?_))
      · show _ = _
        unfold fndR
        rw [h1, found (by omega) (by rw [hp, h3', h4, h5]; rfl)]
        rfl
      · exact next (by omega) (by rw [hp, h5]; simp)
      · exact next (by omega) (by rw [hp, h4]; simp)
    · show _ = _
      unfold fndR
      rw [h1, none (by omega)]
  · exact h.elim
end Go.Proofs.YtkjnijddbiconaaGreatDoor.Ev
