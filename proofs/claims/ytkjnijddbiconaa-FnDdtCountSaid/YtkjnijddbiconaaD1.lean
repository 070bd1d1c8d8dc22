/- Sums, numbers as texts. -/
import Derived.Test.YtkjnijddbiconaaDS
namespace Go.Proofs.Ytkjnijddbiconaa.Ev
open Go
set_option linter.unusedVariables false
set_option linter.unusedSimpArgs false
set_option maxRecDepth 100000
def sumL (t : ByteArray) : Nat → Int
  | 0 => 1 + (t.size : Int).tmod 997
  | i + 1 => (257 * sumL t i + byteAt t i + 1).tmod 65521
def sumN (t : ByteArray) : Int := sumL t t.size
def g30 : G1
  | [.val (.string t)], [], k => br (decide (t.size ≤ 4611686018427387904)) (k ⟨.val (.int .i64 (sumN t)), [], []⟩) False
  | _, _, _ => False
theorem sumL_lt (t : ByteArray) : ∀ (i : Nat), 0 ≤ sumL t i ∧ sumL t i ≤ 65520
  | 0 => by
    show 0 ≤ 1 + (t.size : Int).tmod 997 ∧ 1 + (t.size : Int).tmod 997 ≤ 65520
    rw [Int.tmod_eq_emod_of_nonneg (by omega)]
    omega
  | i + 1 => by
    obtain ⟨h1, h2⟩ := sumL_lt t i
    obtain ⟨h3, h4⟩ := byteAt_lt t i
    show 0 ≤ (257 * sumL t i + byteAt t i + 1).tmod 65521 ∧ (257 * sumL t i + byteAt t i + 1).tmod 65521 ≤ 65520
    rw [Int.tmod_eq_emod_of_nonneg (by omega)]
    omega
theorem sumN_lt (t : ByteArray) : 0 ≤ sumN t ∧ sumN t ≤ 65520 := sumL_lt t _
theorem sum_start (t : ByteArray) : IntKind.i64.wrap (1 + (t.size : Int).tmod 997) = sumL t 0 := by
  have := sumL_lt t 0
  exact wrap_id (n := sumL t 0) (by omega) (by omega)
theorem sum_step (t : ByteArray) (i : Nat) : (IntKind.i64.wrap (IntKind.i64.wrap (IntKind.i64.wrap (257 * sumL t i) + IntKind.i64.wrap (byteAt t i)) + 1)).tmod 65521 = sumL t (i + 1) := by
  obtain ⟨h1, h2⟩ := sumL_lt t i
  obtain ⟨h3, h4⟩ := byteAt_lt t i
  rw [wrap_id (n := 257 * sumL t i) (by omega) (by omega), wrap_id (n := byteAt t i) (by omega) (by omega), wrap_id (n := 257 * sumL t i + byteAt t i) (by omega) (by omega), wrap_id (n := 257 * sumL t i + byteAt t i + 1) (by omega) (by omega)]
  rfl
noncomputable def E30 : Env := E0.of Try.f30
noncomputable def G30 : Gk := gk []
noncomputable def lp30 (n : Nat) : Code := (loopOf n (codeOf Try.f30)).getD .skip
noncomputable def ct30 (L : Lp) (R : Option Res → Prop) (n : Nat) : Kt := contOf E30 G30 L n (codeOf Try.f30) (endK E30 Try.f30.results.toList R)
noncomputable def rk30 (L : Lp) (R : Option Res → Prop) (n : Nat) (N : St → Prop) : Kt := rk (jof E30 (lp30 n)) N (ct30 L R n)
noncomputable def rkn30 (L : Lp) (R : Option Res → Prop) (n : Nat) (N : St → Prop) (m : Nat) (N2 : St → Prop) : Kt := rk (jof E30 (lp30 m)) N2 (contOf E30 G30 L m (lp30 n) (rk30 L R n N))
noncomputable def LOOPN30 (L : Lp) (R : Option Res → Prop) (n : Nat) (N : St → Prop) (m : Nat) (st : St) : Prop := L (lp30 m) st (contOf E30 G30 L m (lp30 n) (rk30 L R n N))
noncomputable def LOOP30 (L : Lp) (R : Option Res → Prop) (n : Nat) (st : St) : Prop := L (lp30 n) st (ct30 L R n)
theorem hg30 : HG Try.prog G30 := hg_nil
theorem okf30 : Ok Try.prog E30 := ok0.of Try.f30
theorem e30 (L : Lp) (R : Option Res → Prop) (t : ByteArray) : (bodyP E0 G30 L Try.f30 [.val (.string t)] [] R) = (
    LOOP30 L R 3 { tm := [vS t, vU, vI 0, vI (IntKind.i64.wrap (1 + (↑t.size : Int).tmod 997)), vI 0, vJ, vJ, vJ, vJ, vJ, vJ, vJ, vJ, vJ, vJ, vJ, vJ, vJ, vJ, vJ, vJ, vJ, vJ, vJ, vU], ob := [], nx := 1000000, ps := [] }) := by kernel_rfl
def st30 (t : ByteArray) (n i : Int) : St :=  ⟨[vS t, vU, vI 0, .val (.int .i64 n), .val (.int .i64 i), vJ, vJ, vJ, vJ, vJ, vJ, vJ, vJ, vJ, vJ, vJ, vJ, vJ, vJ, vJ, vJ, vJ, vJ, vJ, vU], [], 1000000, []⟩
theorem b30 (L : Lp) (R : Option Res → Prop) (N : St → Prop) (t : ByteArray) (n i : Int) : (evP E30 G30 L (lp30 3) (st30 t n i) (rk30 L R 3 N)) = (
    br (decide (i < (↑t.size : Int))) (br (decide (0 ≤ i ∧ i < (↑t.size : Int))) (N { tm := [vS t, vU, vI 0, vI ((IntKind.i64.wrap (IntKind.i64.wrap (IntKind.i64.wrap (n * 257) + IntKind.i64.wrap (byteAt t i)) + 1)).tmod 65521), vI (IntKind.i64.wrap (i + 1)), vJ, vJ, vJ, vJ, vJ, vJ, vJ, vJ, vJ, vJ, vJ, vJ, vJ, vJ, vJ, vJ, vJ, vJ, vJ, vU], ob := [], nx := 1000000, ps := [] }) False) (R (some { av := vI n, obs := [], outs := [] }))) := by kernel_rfl
theorem h30 : G1Ok Try.prog 30 g30 := by
  intro args obs k h
  unfold g30 at h
  split at h
  · rename_i k t
    obtain ⟨hlen, h⟩ := brd h
    refine ⟨_, ctr_fn ok0 hg30 Try.func30 (by kernel_rfl) (by kernel_rfl) (by kernel_rfl) fun C => ?_, h⟩
    rw [e30]
    refine loopUp okf30 hg30 (fun i n => st30 t n i) t.size (fun i n => n = sumL t i) (fun N i n hi hn next => ?_) _ (sum_start t)
    show evP E30 G30 _ (lp30 3) (st30 t n i) (rk30 _ _ 3 _)
    rw [b30, hn, wrap_id (n := (i : Int) + 1) (by omega) (by omega), Int.mul_comm (sumL t i) 257, sum_step]
    refine br_dec (fun h1 => br_yes ⟨by omega, h1⟩ ?_) (fun h1 => ?_)
    · exact next (by omega) _ rfl
    · show _ = _
      have : i = t.size := by omega
      rw [this]
      rfl
  · exact h.elim
end Go.Proofs.Ytkjnijddbiconaa.Ev
