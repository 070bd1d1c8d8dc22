/- Sums, numbers as texts. -/
import Derived.Test.YtkjnijddbiconaaGreatDoorDS
import Derived.Lib.ItoaNum
namespace Go.Proofs.YtkjnijddbiconaaGreatDoor.Ev
open Go
set_option linter.unusedVariables false
set_option linter.unusedSimpArgs false
set_option maxRecDepth 100000
def sumL (t : ByteArray) : Nat → Int
  | 0 => 1 + (t.size : Int).tmod 997
  | i + 1 => (257 * sumL t i + byteAt t i + 1).tmod 65521
def sumN (t : ByteArray) : Int := sumL t t.size
def g116 : G1
  | [.val (.string t)], [], k => br (decide (t.size ≤ 4611686018427387904)) (k ⟨.val (.int .i64 (sumN t)), [], []⟩) False
  | _, _, _ => False
theorem sumL_lt (t : ByteArray) : ∀ (i : Nat), 0 ≤ sumL t i ∧ sumL t i ≤ 65520
  | 0 => by
    show 0 ≤ 1 + (t.size : Int).tmod 997 ∧ 1 + (t.size : Int).tmod 997 ≤ 65520
    rw [Int.tmod_eq_emod_of_nonneg (by omega)]
    omega
  | i + 1 => by
    obtain ⟨h1, h2⟩ := sumL_lt t i
    obtain ⟨h3, h4⟩ := byteAt_lt t i
    show 0 ≤ (257 * sumL t i + byteAt t i + 1).tmod 65521 ∧ (257 * sumL t i + byteAt t i + 1).tmod 65521 ≤ 65520
    rw [Int.tmod_eq_emod_of_nonneg (by omega)]
    omega
theorem sum_start (t : ByteArray) : IntKind.i64.wrap (1 + (t.size : Int).tmod 997) = sumL t 0 := by
  have := sumL_lt t 0
  exact wrap_id (n := sumL t 0) (by omega) (by omega)
theorem sum_step (t : ByteArray) (i : Nat) : (IntKind.i64.wrap (IntKind.i64.wrap (IntKind.i64.wrap (257 * sumL t i) + IntKind.i64.wrap (byteAt t i)) + 1)).tmod 65521 = sumL t (i + 1) := by
  obtain ⟨h1, h2⟩ := sumL_lt t i
  obtain ⟨h3, h4⟩ := byteAt_lt t i
  rw [wrap_id (n := 257 * sumL t i) (by omega) (by omega), wrap_id (n := byteAt t i) (by omega) (by omega), wrap_id (n := 257 * sumL t i + byteAt t i) (by omega) (by omega), wrap_id (n := 257 * sumL t i + byteAt t i + 1) (by omega) (by omega)]
  rfl
noncomputable def E116 : Env := E0.of Tryz.f116
noncomputable def G116 : Gk := gk []
noncomputable def lp116 (n : Nat) : Code := (loopOf n (codeOf Tryz.f116)).getD .skip
noncomputable def ct116 (L : Lp) (R : Option Res → Prop) (n : Nat) : Kt := contOf E116 G116 L n (codeOf Tryz.f116) (endK E116 Tryz.f116.results.toList R)
noncomputable def rk116 (L : Lp) (R : Option Res → Prop) (n : Nat) (N : St → Prop) : Kt := rk (jof E116 (lp116 n)) N (ct116 L R n)
noncomputable def LOOP116 (L : Lp) (R : Option Res → Prop) (n : Nat) (st : St) : Prop := L (lp116 n) st (ct116 L R n)
theorem hg116 : HG Tryz.prog G116 := hg_nil
theorem okf116 : Ok Tryz.prog E116 := ok0.of Tryz.f116
theorem e116 (L : Lp) (R : Option Res → Prop) (t : ByteArray) : (bodyP E0 G116 L Tryz.f116 [.val (.string t)] [] R) = (
    LOOP116 L R 3 { tm := [vS t, vU, vI 0, vI (IntKind.i64.wrap (1 + (↑t.size : Int).tmod 997)), vI 0, vJ, vJ, vJ, vJ, vJ, vJ, vJ, vJ, vJ, vJ, vJ, vJ, vJ, vJ, vJ, vJ, vJ, vJ, vJ, vU], ob := [], nx := 1000000, ps := [] }) := by kernel_rfl
def st116 (t : ByteArray) (n i : Int) : St :=  ⟨[vS t, vU, vI 0, .val (.int .i64 n), .val (.int .i64 i), vJ, vJ, vJ, vJ, vJ, vJ, vJ, vJ, vJ, vJ, vJ, vJ, vJ, vJ, vJ, vJ, vJ, vJ, vJ, vU], [], 1000000, []⟩
theorem b116 (L : Lp) (R : Option Res → Prop) (N : St → Prop) (t : ByteArray) (n i : Int) : (evP E116 G116 L (lp116 3) (st116 t n i) (rk116 L R 3 N)) = (
    br (decide (i < (↑t.size : Int))) (br (decide (0 ≤ i ∧ i < (↑t.size : Int))) (N { tm := [vS t, vU, vI 0, vI ((IntKind.i64.wrap (IntKind.i64.wrap (IntKind.i64.wrap (n * 257) + IntKind.i64.wrap (byteAt t i)) + 1)).tmod 65521), vI (IntKind.i64.wrap (i + 1)), vJ, vJ, vJ, vJ, vJ, vJ, vJ, vJ, vJ, vJ, vJ, vJ, vJ, vJ, vJ, vJ, vJ, vJ, vJ, vU], ob := [], nx := 1000000, ps := [] }) False) (R (some { av := vI n, obs := [], outs := [] }))) := by kernel_rfl
theorem h116 : G1Ok Tryz.prog 116 g116 := by
  intro args obs k h
  unfold g116 at h
  split at h
  · rename_i k t
    obtain ⟨hlen, h⟩ := brd h
    refine ⟨_, ctr_fn ok0 hg116 Tryz.func116 (by kernel_rfl) (by kernel_rfl) (by kernel_rfl) fun C => ?_, h⟩
    rw [e116]
    refine loopUp okf116 hg116 (fun i n => st116 t n i) t.size (fun i n => n = sumL t i) (fun N i n hi hn next => ?_) _ (sum_start t)
    show evP E116 G116 _ (lp116 3) (st116 t n i) (rk116 _ _ 3 _)
    rw [b116, hn, wrap_id (n := (i : Int) + 1) (by omega) (by omega), Int.mul_comm (sumL t i) 257, sum_step]
    refine br_dec (fun h1 => br_yes ⟨by omega, h1⟩ ?_) (fun h1 => ?_)
    · exact next (by omega) _ rfl
    · show _ = _
      have : i = t.size := by omega
      rw [this]
      rfl
  · exact h.elim
noncomputable def E115 : Env := E0.of Tryz.f115
noncomputable def G115 : Gk := gk []
noncomputable def lp115 (n : Nat) : Code := (loopOf n (codeOf Tryz.f115)).getD .skip
noncomputable def ct115 (L : Lp) (R : Option Res → Prop) (n : Nat) : Kt := contOf E115 G115 L n (codeOf Tryz.f115) (endK E115 Tryz.f115.results.toList R)
noncomputable def rk115 (L : Lp) (R : Option Res → Prop) (n : Nat) (N : St → Prop) : Kt := rk (jof E115 (lp115 n)) N (ct115 L R n)
noncomputable def LOOP115 (L : Lp) (R : Option Res → Prop) (n : Nat) (st : St) : Prop := L (lp115 n) st (ct115 L R n)
theorem hg115 : HG Tryz.prog G115 := hg_nil
theorem okf115 : Ok Tryz.prog E115 := ok0.of Tryz.f115
theorem e115 (L : Lp) (R : Option Res → Prop) (t : ByteArray) : (bodyP E0 G115 L Tryz.f115 [.val (.string t)] [] R) = (
    LOOP115 L R 3 { tm := [vS t, vU, vI 0, vI (IntKind.i64.wrap (1 + (↑t.size : Int).tmod 997)), vJ, vJ, vJ, vJ, vJ, vJ, vI (↑t.size : Int), vI 0, vJ, vJ, vJ, vJ, vJ, vJ, vJ, vJ, vJ, vJ, vJ, vJ, vU], ob := [], nx := 1000000, ps := [] }) := by kernel_rfl
def st115 (t : ByteArray) (n i : Int) : St :=  ⟨[vS t, vU, vI 0, .val (.int .i64 n), vJ, vJ, vJ, vJ, vJ, vJ, vI (↑t.size : Int), .val (.int .i64 i), vJ, vJ, vJ, vJ, vJ, vJ, vJ, vJ, vJ, vJ, vJ, vJ, vU], [], 1000000, []⟩
theorem b115 (L : Lp) (R : Option Res → Prop) (N : St → Prop) (t : ByteArray) (n i : Int) : (evP E115 G115 L (lp115 3) (st115 t n i) (rk115 L R 3 N)) = (
    br (decide (i < (↑t.size : Int))) (br (decide (0 ≤ i ∧ i < (↑t.size : Int))) (N { tm := [vS t, vU, vI 0, vI ((IntKind.i64.wrap (IntKind.i64.wrap (IntKind.i64.wrap (257 * n) + IntKind.i64.wrap (byteAt t i)) + 1)).tmod 65521), vJ, vJ, vJ, vJ, vJ, vJ, vI (↑t.size : Int), vI (IntKind.i64.wrap (i + 1)), vJ, vJ, vJ, vJ, vJ, vJ, vJ, vJ, vJ, vJ, vJ, vJ, vU], ob := [], nx := 1000000, ps := [] }) False) (R (some { av := vI n, obs := [], outs := [] }))) := by kernel_rfl
theorem h115 : G1Ok Tryz.prog 115 g116 := by
  intro args obs k h
  unfold g116 at h
  split at h
  · rename_i k t
    obtain ⟨hlen, h⟩ := brd h
    refine ⟨_, ctr_fn ok0 hg115 Tryz.func115 (by kernel_rfl) (by kernel_rfl) (by kernel_rfl) fun C => ?_, h⟩
    rw [e115]
    refine loopUp okf115 hg115 (fun i n => st115 t n i) t.size (fun i n => n = sumL t i) (fun N i n hi hn next => ?_) _ (sum_start t)
    show evP E115 G115 _ (lp115 3) (st115 t n i) (rk115 _ _ 3 _)
    rw [b115, hn, wrap_id (n := (i : Int) + 1) (by omega) (by omega), sum_step]
    refine br_dec (fun h1 => br_yes ⟨by omega, h1⟩ ?_) (fun h1 => ?_)
    · exact next (by omega) _ rfl
    · show _ = _
      have : i = t.size := by omega
      rw [this]
      rfl
  · exact h.elim
def decD (u : Nat) : List UInt8 := if h : u < 10 then [UInt8.ofNat (48 + u)] else decD (u / 10) ++ [UInt8.ofNat (48 + u % 10)]
  termination_by u
  decreasing_by omega
def dec (n : Int) : ByteArray := ⟨(match decide (n < 0) with | true => 45 :: decD n.natAbs | false => decD n.toNat).toArray⟩
def inN (n : Int) : Bool := decide (-9223372036854775808 ≤ n ∧ n ≤ 9223372036854775807)
def g177 : G1
  | [.val (.int .i64 n)], [], k => br (inN n) (k ⟨.val (.string (dec n)), [], []⟩) False
  | _, _, _ => False
theorem decD_lib (u : Nat) : decD u = Lib.decDigits u := by
  induction u using decD.induct with
  | case1 u h => rw [decD, Lib.decDigits, dif_pos h, dif_pos h]
  | case2 u h ih => rw [decD, Lib.decDigits, dif_neg h, dif_neg h, ih]
theorem dec_lib (n : Int) : dec n = ⟨(Lib.itoa n).toArray⟩ := by
  unfold dec Lib.itoa
  by_cases h : n < 0
  · rw [decide_eq_true h, if_pos h, decD_lib]
  · rw [decide_eq_false h, if_neg h, ← decD_lib]
theorem decD_len (u : Nat) : (decD u).length ≤ u / 2 + 1 := by
  induction u using decD.induct with
  | case1 u h =>
    rw [decD, dif_pos h]
    simp
  | case2 u h ih =>
    rw [decD, dif_neg h, List.length_append, List.length_singleton]
    omega
theorem dec_nn (m : Nat) : dec m = ⟨(decD m).toArray⟩ := by
  unfold dec
  rw [decide_eq_false (by omega)]
  rfl
theorem dec_size {n : Int} (h0 : 0 ≤ n) (h1 : n ≤ 9223372036854775807) : (dec n).size ≤ n.toNat / 2 + 1 := by
  obtain ⟨m, rfl⟩ : ∃ m : Nat, n = m := ⟨n.toNat, by omega⟩
  rw [dec_nn]
  have := decD_len m
  show (decD m).toArray.size ≤ _
  simpa using this
theorem inN_of {n : Int} (h0 : -9223372036854775808 ≤ n) (h1 : n ≤ 9223372036854775807) : inN n = true := decide_eq_true ⟨h0, h1⟩
end Go.Proofs.YtkjnijddbiconaaGreatDoor.Ev
