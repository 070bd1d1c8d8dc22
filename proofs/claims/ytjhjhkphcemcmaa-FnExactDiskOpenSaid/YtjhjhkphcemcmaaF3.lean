/- The law of DdtOk. -/
import Derived.Test.YtjhjhkphcemcmaaF2
namespace Go.Proofs.Ytjhjhkphcemcmaa.Ev
open Go
set_option linter.unusedVariables false
set_option linter.unusedSimpArgs false
set_option maxRecDepth 100000
noncomputable def E5 : Env := E0.of Try.f5
noncomputable def G5 : Gk := gk [(23, g23), (24, g26), (25, g25), (26, g26), (27, g27)]
noncomputable def lp5 (n : Nat) : Code := (loopOf n (codeOf Try.f5)).getD .skip
noncomputable def ct5 (L : Lp) (R : Option Res → Prop) (n : Nat) : Kt := contOf E5 G5 L n (codeOf Try.f5) (endK E5 Try.f5.results.toList R)
noncomputable def rk5 (L : Lp) (R : Option Res → Prop) (n : Nat) (N : St → Prop) : Kt := rk (jof E5 (lp5 n)) N (ct5 L R n)
noncomputable def LOOP5 (L : Lp) (R : Option Res → Prop) (n : Nat) (st : St) : Prop := L (lp5 n) st (ct5 L R n)
theorem hg5 : HG Try.prog G5 := (hg_cons h23 (hg_cons h24 (hg_cons h25 (hg_cons h26 (hg_cons h27 hg_nil)))))
theorem okf5 : Ok Try.prog E5 := ok0.of Try.f5
theorem e5 (L : Lp) (R : Option Res → Prop) (xs : List (Elem k3)) : (bodyP E0 G5 L Try.f5 [.rsl k3 xs] [] R) = (
    br (decide (IntKind.i64.wrap (1048576 - (↑xs.length : Int)) < 0))
      (R (some { av := AV.val (Value.bool true), obs := [], outs := [] }))
      (br (decide (IntKind.i64.wrap (1048576 - (↑xs.length : Int)) < 0))
        (R (some { av := AV.val (Value.bool true), obs := [], outs := [] }))
        (br (decide (xs.length ≤ 1048576))
          (br (decide (xs.length ≤ 1048576))
            (br (decide (xs.length ≤ 1048576))
              (br (decide (xs.length ≤ 1048576))
                (br (!ddtOk xs == ddtOk xs) (R (some { av := AV.val (Value.bool false), obs := [], outs := [] }))
                  (br (decide (xs.length ≤ 1048576))
                    (br (decide (xs.length ≤ 1048576))
                      (br (!eqF xs xs) (R (some { av := AV.val (Value.bool false), obs := [], outs := [] }))
                        (R (some { av := AV.val (Value.bool true), obs := [], outs := [] })))
                      False)
                    False))
                False)
              False)
            False)
          False))) := by kernel_rfl
theorem eq3_self (a : Elem k3) : eq3 a a = true := by simp [eq3]
theorem eqF_self (xs : List (Elem k3)) : eqF xs xs = true := by
  unfold eqF
  have : ((List.range xs.length).all fun i => eq3 (at3 xs i) (at3 xs i)) = true := by
    rw [List.all_eq_true]
    intro j _
    exact eq3_self _
  rw [this]
  simp
theorem c5 (xs : List (Elem k3)) (hm : xs.length ≤ maxLen) : Ctr Try.prog 5 [.rsl k3 xs] [] ⟨.val (.bool true), [], []⟩ := by
  have hm' : xs.length ≤ 9223372036854775807 := hm
  refine ctr_fn ok0 hg5 Try.func5 (by kernel_rfl) (by kernel_rfl) (by kernel_rfl) fun C => ?_
  rw [e5]
  rw [wrap_id (by omega) (by omega)]
  refine br_intro (fun _ => rfl) (fun h => ?_)
  simp at h
  have hd : decide (xs.length ≤ 1048576) = true := by simp; omega
  rw [hd, eqF_self]
  refine br_intro (fun _ => rfl) (fun _ => ?_)
  refine br_intro (fun _ => ?_) (fun h => by cases h)
  refine br_intro (fun _ => ?_) (fun h => by cases h)
  refine br_intro (fun _ => ?_) (fun h => by cases h)
  refine br_intro (fun _ => ?_) (fun h => by cases h)
  refine br_intro (fun h => ?_) (fun _ => ?_)
  · cases hc : ddtOk xs <;> rw [hc] at h <;> cases h
  refine br_intro (fun _ => ?_) (fun h => by cases h)
  refine br_intro (fun _ => ?_) (fun h => by cases h)
  exact br_intro (fun h => by cases h) (fun _ => rfl)
end Go.Proofs.Ytjhjhkphcemcmaa.Ev
