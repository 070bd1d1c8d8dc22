/- Pointers that are valid. -/
import Derived.Test.YtkjnijddbiconaaGreatDoorDS
namespace Go.Proofs.YtkjnijddbiconaaGreatDoor.Ev
open Go
set_option linter.unusedVariables false
set_option linter.unusedSimpArgs false
set_option maxRecDepth 100000
def ptrOk (a b c : Int) : Bool := (a == 0 && b == 0 && c == 0) || (decide (a > 0) && decide (a < 120) && decide (b ≥ 0) && decide (b < 65521) && decide (c ≥ 0) && decide (c ≤ 1000000))
def g195 : G1
  | [.agg [.val (.int .i64 a), .val (.int .i64 b), .val (.int .i64 c)]], [], k => k ⟨.val (.bool (ptrOk a b c)), [], []⟩
  | _, _, _ => False
noncomputable def G195 : Gk := gk [(129, g129)]
theorem hg195 : HG Tryz.prog G195 := (hg_cons h129 hg_nil)
theorem e195 (L : Lp) (R : Option Res → Prop) (a b c : Int) : (bodyP E0 G195 L Tryz.f195 [.agg [.val (.int .i64 a), .val (.int .i64 b), .val (.int .i64 c)]] [] R) = (
    br (elemEq k3 (a, b, c, ()) (0, 0, 0, ())) (R (some { av := vB true, obs := [], outs := [] })) (br (decide (1 ≤ a) && decide (a ≤ 119)) (br (decide (0 ≤ b) && decide (b ≤ 65520)) (R (some { av := vB (decide (0 ≤ c) && decide (c ≤ 1000000)), obs := [], outs := [] })) (R (some { av := vB false, obs := [], outs := [] }))) (R (some { av := vB false, obs := [], outs := [] })))) := by kernel_rfl
theorem h195 : G1Ok Tryz.prog 195 g195 := by
  intro args obs k h
  unfold g195 at h
  split at h
  · rename_i k a b c
    refine ⟨_, ctr_fn ok0 hg195 Tryz.func195 (by kernel_rfl) (by kernel_rfl) (by kernel_rfl) fun C => ?_, h⟩
    rw [e195]
    refine br_intro (fun h => ?_) (fun h => br_intro (fun h2 => br_intro (fun h3 => ?_) (fun h3 => ?_)) (fun h2 => ?_))
    all_goals simp [ptrOk, elemEq, ckEq] at *
    all_goals grind
  · exact h.elim
noncomputable def G109 : Gk := gk []
theorem hg109 : HG Tryz.prog G109 := hg_nil
theorem e109 (L : Lp) (R : Option Res → Prop) (a b c : Int) : (bodyP E0 G109 L Tryz.f109 [.agg [.val (.int .i64 a), .val (.int .i64 b), .val (.int .i64 c)]] [] R) = (
    br (a == 0) (R (some { av := vB (elemEq k3 (a, b, c, ()) (0, 0, 0, ())), obs := [], outs := [] })) (br (decide (a > 0)) (br (decide (a < 120)) (br (decide (b ≥ 0)) (br (decide (b < 65521)) (br (decide (c ≥ 0)) (R (some { av := vB (decide (c ≤ 1000000)), obs := [], outs := [] })) (R (some { av := vB false, obs := [], outs := [] }))) (R (some { av := vB false, obs := [], outs := [] }))) (R (some { av := vB false, obs := [], outs := [] }))) (R (some { av := vB false, obs := [], outs := [] }))) (R (some { av := vB false, obs := [], outs := [] })))) := by kernel_rfl
theorem h109 : G1Ok Tryz.prog 109 g195 := by
  intro args obs k h
  unfold g195 at h
  split at h
  · rename_i k a b c
    refine ⟨_, ctr_fn ok0 hg109 Tryz.func109 (by kernel_rfl) (by kernel_rfl) (by kernel_rfl) fun C => ?_, h⟩
    rw [e109]
    repeat' (first | refine br_intro (fun h => ?_) (fun h => ?_))
    all_goals simp [ptrOk, elemEq, ckEq] at *
    all_goals grind
  · exact h.elim
def realP (a b c : Int) : Bool := ptrOk a b c && (a != 0)
def g121 : G1
  | [.agg [.val (.int .i64 a), .val (.int .i64 b), .val (.int .i64 c)]], [], k => k ⟨.val (.bool (realP a b c)), [], []⟩
  | _, _, _ => False
noncomputable def G121 : Gk := gk [(195, g195)]
theorem hg121 : HG Tryz.prog G121 := (hg_cons h195 hg_nil)
theorem e121 (L : Lp) (R : Option Res → Prop) (a b c : Int) : (bodyP E0 G121 L Tryz.f121 [.agg [.val (.int .i64 a), .val (.int .i64 b), .val (.int .i64 c)]] [] R) = (
    br (ptrOk a b c) (R (some { av := vB (a != 0), obs := [], outs := [] })) (R (some { av := vB false, obs := [], outs := [] }))) := by kernel_rfl
theorem h121 : G1Ok Tryz.prog 121 g121 := by
  intro args obs k h
  unfold g121 at h
  split at h
  · rename_i k a b c
    refine ⟨_, ctr_fn ok0 hg121 Tryz.func121 (by kernel_rfl) (by kernel_rfl) (by kernel_rfl) fun C => ?_, h⟩
    rw [e121]
    refine br_intro (fun h => ?_) (fun h => ?_) <;> show _ = _ <;> unfold realP <;> rw [h] <;> rfl
  · exact h.elim
theorem realP_gt {x y z : Int} (h : ptrOk x y z = true) : realP x y z = decide (x > 0) := by
  unfold realP
  rw [h, Bool.true_and]
  simp only [ptrOk, Bool.or_eq_true, Bool.and_eq_true, decide_eq_true_eq, beq_iff_eq] at h
  rw [Bool.eq_iff_iff]
  simp only [bne_iff_ne, decide_eq_true_eq]
  omega
end Go.Proofs.YtkjnijddbiconaaGreatDoor.Ev
