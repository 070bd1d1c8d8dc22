/- The laws of BlkSide and BlkRead. -/
import Derived.Test.YtkjnijddbiconaaGreatDoorK3
import Derived.Test.YtkjnijddbiconaaGreatDoorD1
import Derived.Test.YtkjnijddbiconaaGreatDoorDP
namespace Go.Proofs.YtkjnijddbiconaaGreatDoor.Ev
open Go
set_option linter.unusedVariables false
set_option linter.unusedSimpArgs false
set_option maxRecDepth 100000
def hasD (a b : List (Elem ks)) (c : List (Elem kl)) (x y s : Int) : Bool := secOk a.length s x && (sumN (rdD a b c s x) == y)
def g122 : G1
  | [.agg [.rsl [.str] a, .rsl [.str] b, .rsl [.int .i64, .int .i64, .str] c], .agg [.val (.int .i64 x), .val (.int .i64 y), .val (.int .i64 z)], .val (.int .i64 s)], [], k =>
    br (dkOk a b c) (k ⟨.val (.bool (hasD a b c x y s)), [], []⟩) False
  | _, _, _ => False
def sideD (a b : List (Elem ks)) (c : List (Elem kl)) (x y z s : Int) : Bool := dkOk a b c && realP x y z && hasD a b c x y s
def g149 : G1
  | [.agg [.rsl [.str] a, .rsl [.str] b, .rsl [.int .i64, .int .i64, .str] c], .agg [.val (.int .i64 x), .val (.int .i64 y), .val (.int .i64 z)], .val (.int .i64 s)], [], k =>
    br (smD a b c) (k ⟨.val (.bool (sideD a b c x y z s)), [], []⟩) False
  | _, _, _ => False
/-- The texts of a valid disk are short. -/
theorem long_at {xs : List (Elem ks)} (h : anyLong xs = false) (i : Nat) : (xs.getD i (edflt ks)).1.size ≤ 420 := by
  by_cases hi : i < xs.length
  · have := anyB_at h hi
    simp only [longT, decide_eq_false_iff_not] at this
    omega
  · rw [List.getD_eq_getElem?_getD, List.getElem?_eq_none (by omega)]
    show ByteArray.empty.size ≤ 420
    decide
theorem rdD_size {a b : List (Elem ks)} {c : List (Elem kl)} (h : dkOk a b c = true) (s i : Int) : (rdD a b c s i).size ≤ 420 := by
  simp only [dkOk, Bool.and_eq_true, Bool.not_eq_true'] at h
  obtain ⟨⟨⟨_, h1⟩, h2⟩, h3⟩ := h
  unfold rdD
  split
  · rename_i t e
    exact lkL_size h3 s i _ (Nat.le_refl _) t e
  · unfold sideAt
    split
    · exact long_at h1 _
    · exact long_at h2 _
noncomputable def G122 : Gk := gk [(157, g157), (123, g150), (115, g116)]
theorem hg122 : HG Tryz.prog G122 := (hg_cons h157 (hg_cons h123 (hg_cons h115 hg_nil)))
theorem e122 (L : Lp) (R : Option Res → Prop) (a b : List (Elem ks)) (c : List (Elem kl)) (x y z s : Int) : (bodyP E0 G122 L Tryz.f122 [.agg [.rsl ks a, .rsl ks b, .rsl kl c], .agg [.val (.int .i64 x), .val (.int .i64 y), .val (.int .i64 z)], .val (.int .i64 s)] [] R) = (
    br (decide (a.length ≤ 1048576)) (br (secOk a.length s x) (br (secOk a.length s x && (decide (b.length = a.length) && decide (c.length ≤ 1048576))) (br (decide ((rdD a b c s x).size ≤ 4611686018427387904)) (R (some { av := vB (sumN (rdD a b c s x) == y), obs := [], outs := [] })) False) False) (R (some { av := vB false, obs := [], outs := [] }))) False) := by kernel_rfl
theorem h122 : G1Ok Tryz.prog 122 g122 := by
  intro args obs k h
  unfold g122 at h
  split at h
  · rename_i k a b c x y z s
    obtain ⟨ho, h⟩ := br_and h
    obtain ⟨q1, q2, q3⟩ := dkOk_b ho
    refine ⟨_, ctr_fn ok0 hg122 Tryz.func122 (by kernel_rfl) (by kernel_rfl) (by kernel_rfl) fun C => ?_, h⟩
    rw [e122]
    refine br_yes (by omega) (br_intro (fun h1 => br_t ?_ (br_yes ?_ ?_)) (fun h1 => ?_))
    · rw [h1, q1]
      simp
      omega
    · have := rdD_size ho s x
      omega
    · show _ = _
      unfold hasD
      rw [h1]
      rfl
    · show _ = _
      unfold hasD
      rw [h1]
      rfl
  · exact h.elim
noncomputable def G149 : Gk := gk [(190, g190), (109, g195), (116, g116)]
theorem hg149 : HG Tryz.prog G149 := (hg_cons h190 (hg_cons h109 (hg_cons h116 hg_nil)))
theorem e149 (L : Lp) (R : Option Res → Prop) (a b : List (Elem ks)) (c : List (Elem kl)) (x y z s : Int) : (bodyP E0 G149 L Tryz.f149 [.agg [.rsl ks a, .rsl ks b, .rsl kl c], .agg [.val (.int .i64 x), .val (.int .i64 y), .val (.int .i64 z)], .val (.int .i64 s)] [] R) = (
    br (smD a b c) (br (dkOk a b c && secOk a.length s x) (br (ptrOk x y z) (br (decide (x > 0)) (br (decide ((rdA a b c s x).size ≤ 4611686018427387904)) (R (some { av := vB (sumN (rdA a b c s x) == y), obs := [], outs := [] })) False) (R (some { av := vB false, obs := [], outs := [] }))) (R (some { av := vB false, obs := [], outs := [] }))) (R (some { av := vB false, obs := [], outs := [] }))) False) := by kernel_rfl
theorem h149 : G1Ok Tryz.prog 149 g149 := by
  intro args obs k h
  unfold g149 at h
  split at h
  · rename_i k a b c x y z s
    obtain ⟨hp, h⟩ := br_and h
    refine ⟨_, ctr_fn ok0 hg149 Tryz.func149 (by kernel_rfl) (by kernel_rfl) (by kernel_rfl) fun C => ?_, h⟩
    rw [e149]
    unfold rdA
    refine br_t hp (br_intro (fun h1 => br_intro (fun h2 => br_intro (fun h3 => br_yes ?_ ?_) (fun h3 => ?_)) (fun h2 => ?_)) (fun h1 => ?_))
    · rw [h1]
      rw [Bool.and_eq_true] at h1
      show (rdD a b c s x).size ≤ _
      have := rdD_size h1.1 s x
      omega
    · rw [h1]
      rw [Bool.and_eq_true] at h1
      show _ = _
      unfold sideD hasD
      rw [h1.1, h1.2, realP_gt h2, h3]
      rfl
    · show _ = _
      unfold sideD
      rw [realP_gt h2, h3, Bool.and_false]
      rfl
    · show _ = _
      unfold sideD realP
      rw [h2]
      simp
    · show _ = _
      rw [Bool.and_eq_false_iff] at h1
      unfold sideD hasD
      rcases h1 with h1 | h1 <;> rw [h1] <;> simp
  · exact h.elim
end Go.Proofs.YtkjnijddbiconaaGreatDoor.Ev
