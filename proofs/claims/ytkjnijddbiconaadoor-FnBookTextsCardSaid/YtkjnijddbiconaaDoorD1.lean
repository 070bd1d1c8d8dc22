/- Sums, numbers as texts. -/
import Derived.Test.YtkjnijddbiconaaDoorDS
import Derived.Lib.ItoaNum
namespace Go.Proofs.YtkjnijddbiconaaDoor.Ev
open Go
set_option linter.unusedVariables false
set_option linter.unusedSimpArgs false
set_option maxRecDepth 100000
def sumL (t : ByteArray) : Nat → Int
  | 0 => 1 + (t.size : Int).tmod 997
  | i + 1 => (257 * sumL t i + byteAt t i + 1).tmod 65521
def sumN (t : ByteArray) : Int := sumL t t.size
def g8 : G1
  | [.val (.string t)], [], k => br (decide (t.size ≤ 4611686018427387904)) (k ⟨.val (.int .i64 (sumN t)), [], []⟩) False
  | _, _, _ => False
theorem sumL_lt (t : ByteArray) : ∀ (i : Nat), 0 ≤ sumL t i ∧ sumL t i ≤ 65520
  | 0 => by
    show 0 ≤ 1 + (t.size : Int).tmod 997 ∧ 1 + (t.size : Int).tmod 997 ≤ 65520
    rw [Int.tmod_eq_emod_of_nonneg (by omega)]
    omega
  | i + 1 => by
    obtain ⟨h1, h2⟩ := sumL_lt t i
    obtain ⟨h3, h4⟩ := byteAt_lt t i
    show 0 ≤ (257 * sumL t i + byteAt t i + 1).tmod 65521 ∧ (257 * sumL t i + byteAt t i + 1).tmod 65521 ≤ 65520
    rw [Int.tmod_eq_emod_of_nonneg (by omega)]
    omega
theorem sum_start (t : ByteArray) : IntKind.i64.wrap (1 + (t.size : Int).tmod 997) = sumL t 0 := by
  have := sumL_lt t 0
  exact wrap_id (n := sumL t 0) (by omega) (by omega)
theorem sum_step (t : ByteArray) (i : Nat) : (IntKind.i64.wrap (IntKind.i64.wrap (IntKind.i64.wrap (257 * sumL t i) + IntKind.i64.wrap (byteAt t i)) + 1)).tmod 65521 = sumL t (i + 1) := by
  obtain ⟨h1, h2⟩ := sumL_lt t i
  obtain ⟨h3, h4⟩ := byteAt_lt t i
  rw [wrap_id (n := 257 * sumL t i) (by omega) (by omega), wrap_id (n := byteAt t i) (by omega) (by omega), wrap_id (n := 257 * sumL t i + byteAt t i) (by omega) (by omega), wrap_id (n := 257 * sumL t i + byteAt t i + 1) (by omega) (by omega)]
  rfl
noncomputable def E8 : Env := E0.of Tryd.f8
noncomputable def G8 : Gk := gk []
noncomputable def lp8 (n : Nat) : Code := (loopOf n (codeOf Tryd.f8)).getD .skip
noncomputable def ct8 (L : Lp) (R : Option Res → Prop) (n : Nat) : Kt := contOf E8 G8 L n (codeOf Tryd.f8) (endK E8 Tryd.f8.results.toList R)
noncomputable def rk8 (L : Lp) (R : Option Res → Prop) (n : Nat) (N : St → Prop) : Kt := rk (jof E8 (lp8 n)) N (ct8 L R n)
noncomputable def LOOP8 (L : Lp) (R : Option Res → Prop) (n : Nat) (st : St) : Prop := L (lp8 n) st (ct8 L R n)
theorem hg8 : HG Tryd.prog G8 := hg_nil
theorem okf8 : Ok Tryd.prog E8 := ok0.of Tryd.f8
theorem e8 (L : Lp) (R : Option Res → Prop) (t : ByteArray) : (bodyP E0 G8 L Tryd.f8 [.val (.string t)] [] R) = (
    LOOP8 L R 3 { tm := [vS t, vU, vI 0, vI (IntKind.i64.wrap (1 + (↑t.size : Int).tmod 997)), vI 0, vJ, vJ, vJ, vJ, vJ, vJ, vJ, vJ, vJ, vJ, vJ, vJ, vJ, vJ, vJ, vJ, vJ, vJ, vJ, vU], ob := [], nx := 1000000, ps := [] }) := by kernel_rfl
def st8 (t : ByteArray) (n i : Int) : St :=  ⟨[vS t, vU, vI 0, .val (.int .i64 n), .val (.int .i64 i), vJ, vJ, vJ, vJ, vJ, vJ, vJ, vJ, vJ, vJ, vJ, vJ, vJ, vJ, vJ, vJ, vJ, vJ, vJ, vU], [], 1000000, []⟩
theorem b8 (L : Lp) (R : Option Res → Prop) (N : St → Prop) (t : ByteArray) (n i : Int) : (evP E8 G8 L (lp8 3) (st8 t n i) (rk8 L R 3 N)) = (
    br (decide (i < (↑t.size : Int))) (br (decide (0 ≤ i ∧ i < (↑t.size : Int))) (N { tm := [vS t, vU, vI 0, vI ((IntKind.i64.wrap (IntKind.i64.wrap (IntKind.i64.wrap (n * 257) + IntKind.i64.wrap (byteAt t i)) + 1)).tmod 65521), vI (IntKind.i64.wrap (i + 1)), vJ, vJ, vJ, vJ, vJ, vJ, vJ, vJ, vJ, vJ, vJ, vJ, vJ, vJ, vJ, vJ, vJ, vJ, vJ, vU], ob := [], nx := 1000000, ps := [] }) False) (R (some { av := vI n, obs := [], outs := [] }))) := by kernel_rfl
theorem h8 : G1Ok Tryd.prog 8 g8 := by
  intro args obs k h
  unfold g8 at h
  split at h
  · rename_i k t
    obtain ⟨hlen, h⟩ := brd h
    refine ⟨_, ctr_fn ok0 hg8 Tryd.func8 (by kernel_rfl) (by kernel_rfl) (by kernel_rfl) fun C => ?_, h⟩
    rw [e8]
    refine loopUp okf8 hg8 (fun i n => st8 t n i) t.size (fun i n => n = sumL t i) (fun N i n hi hn next => ?_) _ (sum_start t)
    show evP E8 G8 _ (lp8 3) (st8 t n i) (rk8 _ _ 3 _)
    rw [b8, hn, wrap_id (n := (i : Int) + 1) (by omega) (by omega), Int.mul_comm (sumL t i) 257, sum_step]
    refine br_dec (fun h1 => br_yes ⟨by omega, h1⟩ ?_) (fun h1 => ?_)
    · exact next (by omega) _ rfl
    · show _ = _
      have : i = t.size := by omega
      rw [this]
      rfl
  · exact h.elim
noncomputable def E7 : Env := E0.of Tryd.f7
noncomputable def G7 : Gk := gk []
noncomputable def lp7 (n : Nat) : Code := (loopOf n (codeOf Tryd.f7)).getD .skip
noncomputable def ct7 (L : Lp) (R : Option Res → Prop) (n : Nat) : Kt := contOf E7 G7 L n (codeOf Tryd.f7) (endK E7 Tryd.f7.results.toList R)
noncomputable def rk7 (L : Lp) (R : Option Res → Prop) (n : Nat) (N : St → Prop) : Kt := rk (jof E7 (lp7 n)) N (ct7 L R n)
noncomputable def LOOP7 (L : Lp) (R : Option Res → Prop) (n : Nat) (st : St) : Prop := L (lp7 n) st (ct7 L R n)
theorem hg7 : HG Tryd.prog G7 := hg_nil
theorem okf7 : Ok Tryd.prog E7 := ok0.of Tryd.f7
theorem e7 (L : Lp) (R : Option Res → Prop) (t : ByteArray) : (bodyP E0 G7 L Tryd.f7 [.val (.string t)] [] R) = (
    LOOP7 L R 3 { tm := [vS t, vU, vI 0, vI (IntKind.i64.wrap (1 + (↑t.size : Int).tmod 997)), vJ, vJ, vJ, vJ, vJ, vJ, vI (↑t.size : Int), vI 0, vJ, vJ, vJ, vJ, vJ, vJ, vJ, vJ, vJ, vJ, vJ, vJ, vU], ob := [], nx := 1000000, ps := [] }) := by kernel_rfl
def st7 (t : ByteArray) (n i : Int) : St :=  ⟨[vS t, vU, vI 0, .val (.int .i64 n), vJ, vJ, vJ, vJ, vJ, vJ, vI (↑t.size : Int), .val (.int .i64 i), vJ, vJ, vJ, vJ, vJ, vJ, vJ, vJ, vJ, vJ, vJ, vJ, vU], [], 1000000, []⟩
theorem b7 (L : Lp) (R : Option Res → Prop) (N : St → Prop) (t : ByteArray) (n i : Int) : (evP E7 G7 L (lp7 3) (st7 t n i) (rk7 L R 3 N)) = (
    br (decide (i < (↑t.size : Int))) (br (decide (0 ≤ i ∧ i < (↑t.size : Int))) (N { tm := [vS t, vU, vI 0, vI ((IntKind.i64.wrap (IntKind.i64.wrap (IntKind.i64.wrap (257 * n) + IntKind.i64.wrap (byteAt t i)) + 1)).tmod 65521), vJ, vJ, vJ, vJ, vJ, vJ, vI (↑t.size : Int), vI (IntKind.i64.wrap (i + 1)), vJ, vJ, vJ, vJ, vJ, vJ, vJ, vJ, vJ, vJ, vJ, vJ, vU], ob := [], nx := 1000000, ps := [] }) False) (R (some { av := vI n, obs := [], outs := [] }))) := by kernel_rfl
theorem h7 : G1Ok Tryd.prog 7 g8 := by
  intro args obs k h
  unfold g8 at h
  split at h
  · rename_i k t
    obtain ⟨hlen, h⟩ := brd h
    refine ⟨_, ctr_fn ok0 hg7 Tryd.func7 (by kernel_rfl) (by kernel_rfl) (by kernel_rfl) fun C => ?_, h⟩
    rw [e7]
    refine loopUp okf7 hg7 (fun i n => st7 t n i) t.size (fun i n => n = sumL t i) (fun N i n hi hn next => ?_) _ (sum_start t)
    show evP E7 G7 _ (lp7 3) (st7 t n i) (rk7 _ _ 3 _)
    rw [b7, hn, wrap_id (n := (i : Int) + 1) (by omega) (by omega), sum_step]
    refine br_dec (fun h1 => br_yes ⟨by omega, h1⟩ ?_) (fun h1 => ?_)
    · exact next (by omega) _ rfl
    · show _ = _
      have : i = t.size := by omega
      rw [this]
      rfl
  · exact h.elim
end Go.Proofs.YtkjnijddbiconaaDoor.Ev
