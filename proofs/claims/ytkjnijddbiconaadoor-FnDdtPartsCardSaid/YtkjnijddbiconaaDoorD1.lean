/- Sums, numbers as texts. -/
import Derived.Test.YtkjnijddbiconaaDoorDS
import Derived.Lib.ItoaNum
namespace Go.Proofs.YtkjnijddbiconaaDoor.Ev
open Go
set_option linter.unusedVariables false
set_option linter.unusedSimpArgs false
set_option maxRecDepth 100000
def sumL (t : ByteArray) : Nat → Int
  | 0 => 1 + (t.size : Int).tmod 997
  | i + 1 => (257 * sumL t i + byteAt t i + 1).tmod 65521
def sumN (t : ByteArray) : Int := sumL t t.size
def g8 : G1
  | [.val (.string t)], [], k => br (decide (t.size ≤ 4611686018427387904)) (k ⟨.val (.int .i64 (sumN t)), [], []⟩) False
  | _, _, _ => False
theorem sumL_lt (t : ByteArray) : ∀ (i : Nat), 0 ≤ sumL t i ∧ sumL t i ≤ 65520
  | 0 => by
    show 0 ≤ 1 + (t.size : Int).tmod 997 ∧ 1 + (t.size : Int).tmod 997 ≤ 65520
    rw [Int.tmod_eq_emod_of_nonneg (by omega)]
    omega
  | i + 1 => by
    obtain ⟨h1, h2⟩ := sumL_lt t i
    obtain ⟨h3, h4⟩ := byteAt_lt t i
    show 0 ≤ (257 * sumL t i + byteAt t i + 1).tmod 65521 ∧ (257 * sumL t i + byteAt t i + 1).tmod 65521 ≤ 65520
    rw [Int.tmod_eq_emod_of_nonneg (by omega)]
    omega
theorem sumN_lt (t : ByteArray) : 0 ≤ sumN t ∧ sumN t ≤ 65520 := sumL_lt t _
theorem sum_start (t : ByteArray) : IntKind.i64.wrap (1 + (t.size : Int).tmod 997) = sumL t 0 := by
  have := sumL_lt t 0
  exact wrap_id (n := sumL t 0) (by omega) (by omega)
theorem sum_step (t : ByteArray) (i : Nat) : (IntKind.i64.wrap (IntKind.i64.wrap (IntKind.i64.wrap (257 * sumL t i) + IntKind.i64.wrap (byteAt t i)) + 1)).tmod 65521 = sumL t (i + 1) := by
  obtain ⟨h1, h2⟩ := sumL_lt t i
  obtain ⟨h3, h4⟩ := byteAt_lt t i
  rw [wrap_id (n := 257 * sumL t i) (by omega) (by omega), wrap_id (n := byteAt t i) (by omega) (by omega), wrap_id (n := 257 * sumL t i + byteAt t i) (by omega) (by omega), wrap_id (n := 257 * sumL t i + byteAt t i + 1) (by omega) (by omega)]
  rfl
noncomputable def E8 : Env := E0.of Tryd.f8
noncomputable def G8 : Gk := gk []
noncomputable def lp8 (n : Nat) : Code := (loopOf n (codeOf Tryd.f8)).getD .skip
noncomputable def ct8 (L : Lp) (R : Option Res → Prop) (n : Nat) : Kt := contOf E8 G8 L n (codeOf Tryd.f8) (endK E8 Tryd.f8.results.toList R)
noncomputable def rk8 (L : Lp) (R : Option Res → Prop) (n : Nat) (N : St → Prop) : Kt := rk (jof E8 (lp8 n)) N (ct8 L R n)
noncomputable def LOOP8 (L : Lp) (R : Option Res → Prop) (n : Nat) (st : St) : Prop := L (lp8 n) st (ct8 L R n)
theorem hg8 : HG Tryd.prog G8 := hg_nil
theorem okf8 : Ok Tryd.prog E8 := ok0.of Tryd.f8
theorem e8 (L : Lp) (R : Option Res → Prop) (t : ByteArray) : (bodyP E0 G8 L Tryd.f8 [.val (.string t)] [] R) = (
    LOOP8 L R 3 { tm := [vS t, vU, vI 0, vI (IntKind.i64.wrap (1 + (↑t.size : Int).tmod 997)), vI 0, vJ, vJ, vJ, vJ, vJ, vJ, vJ, vJ, vJ, vJ, vJ, vJ, vJ, vJ, vJ, vJ, vJ, vJ, vJ, vU], ob := [], nx := 1000000, ps := [] }) := by kernel_rfl
def st8 (t : ByteArray) (n i : Int) : St :=  ⟨[vS t, vU, vI 0, .val (.int .i64 n), .val (.int .i64 i), vJ, vJ, vJ, vJ, vJ, vJ, vJ, vJ, vJ, vJ, vJ, vJ, vJ, vJ, vJ, vJ, vJ, vJ, vJ, vU], [], 1000000, []⟩
theorem b8 (L : Lp) (R : Option Res → Prop) (N : St → Prop) (t : ByteArray) (n i : Int) : (evP E8 G8 L (lp8 3) (st8 t n i) (rk8 L R 3 N)) = (
    br (decide (i < (↑t.size : Int))) (br (decide (0 ≤ i ∧ i < (↑t.size : Int))) (N { tm := [vS t, vU, vI 0, vI ((IntKind.i64.wrap (IntKind.i64.wrap (IntKind.i64.wrap (n * 257) + IntKind.i64.wrap (byteAt t i)) + 1)).tmod 65521), vI (IntKind.i64.wrap (i + 1)), vJ, vJ, vJ, vJ, vJ, vJ, vJ, vJ, vJ, vJ, vJ, vJ, vJ, vJ, vJ, vJ, vJ, vJ, vJ, vU], ob := [], nx := 1000000, ps := [] }) False) (R (some { av := vI n, obs := [], outs := [] }))) := by kernel_rfl
theorem h8 : G1Ok Tryd.prog 8 g8 := by
  intro args obs k h
  unfold g8 at h
  split at h
  · rename_i k t
    obtain ⟨hlen, h⟩ := brd h
    refine ⟨_, ctr_fn ok0 hg8 Tryd.func8 (by kernel_rfl) (by kernel_rfl) (by kernel_rfl) fun C => ?_, h⟩
    rw [e8]
    refine loopUp okf8 hg8 (fun i n => st8 t n i) t.size (fun i n => n = sumL t i) (fun N i n hi hn next => ?_) _ (sum_start t)
    show evP E8 G8 _ (lp8 3) (st8 t n i) (rk8 _ _ 3 _)
    rw [b8, hn, wrap_id (n := (i : Int) + 1) (by omega) (by omega), Int.mul_comm (sumL t i) 257, sum_step]
    refine br_dec (fun h1 => br_yes ⟨by omega, h1⟩ ?_) (fun h1 => ?_)
    · exact next (by omega) _ rfl
    · show _ = _
      have : i = t.size := by omega
      rw [this]
      rfl
  · exact h.elim
noncomputable def E7 : Env := E0.of Tryd.f7
noncomputable def G7 : Gk := gk []
noncomputable def lp7 (n : Nat) : Code := (loopOf n (codeOf Tryd.f7)).getD .skip
noncomputable def ct7 (L : Lp) (R : Option Res → Prop) (n : Nat) : Kt := contOf E7 G7 L n (codeOf Tryd.f7) (endK E7 Tryd.f7.results.toList R)
noncomputable def rk7 (L : Lp) (R : Option Res → Prop) (n : Nat) (N : St → Prop) : Kt := rk (jof E7 (lp7 n)) N (ct7 L R n)
noncomputable def LOOP7 (L : Lp) (R : Option Res → Prop) (n : Nat) (st : St) : Prop := L (lp7 n) st (ct7 L R n)
theorem hg7 : HG Tryd.prog G7 := hg_nil
theorem okf7 : Ok Tryd.prog E7 := ok0.of Tryd.f7
theorem e7 (L : Lp) (R : Option Res → Prop) (t : ByteArray) : (bodyP E0 G7 L Tryd.f7 [.val (.string t)] [] R) = (
    LOOP7 L R 3 { tm := [vS t, vU, vI 0, vI (IntKind.i64.wrap (1 + (↑t.size : Int).tmod 997)), vJ, vJ, vJ, vJ, vJ, vJ, vI (↑t.size : Int), vI 0, vJ, vJ, vJ, vJ, vJ, vJ, vJ, vJ, vJ, vJ, vJ, vJ, vU], ob := [], nx := 1000000, ps := [] }) := by kernel_rfl
def st7 (t : ByteArray) (n i : Int) : St :=  ⟨[vS t, vU, vI 0, .val (.int .i64 n), vJ, vJ, vJ, vJ, vJ, vJ, vI (↑t.size : Int), .val (.int .i64 i), vJ, vJ, vJ, vJ, vJ, vJ, vJ, vJ, vJ, vJ, vJ, vJ, vU], [], 1000000, []⟩
theorem b7 (L : Lp) (R : Option Res → Prop) (N : St → Prop) (t : ByteArray) (n i : Int) : (evP E7 G7 L (lp7 3) (st7 t n i) (rk7 L R 3 N)) = (
    br (decide (i < (↑t.size : Int))) (br (decide (0 ≤ i ∧ i < (↑t.size : Int))) (N { tm := [vS t, vU, vI 0, vI ((IntKind.i64.wrap (IntKind.i64.wrap (IntKind.i64.wrap (257 * n) + IntKind.i64.wrap (byteAt t i)) + 1)).tmod 65521), vJ, vJ, vJ, vJ, vJ, vJ, vI (↑t.size : Int), vI (IntKind.i64.wrap (i + 1)), vJ, vJ, vJ, vJ, vJ, vJ, vJ, vJ, vJ, vJ, vJ, vJ, vU], ob := [], nx := 1000000, ps := [] }) False) (R (some { av := vI n, obs := [], outs := [] }))) := by kernel_rfl
theorem h7 : G1Ok Tryd.prog 7 g8 := by
  intro args obs k h
  unfold g8 at h
  split at h
  · rename_i k t
    obtain ⟨hlen, h⟩ := brd h
    refine ⟨_, ctr_fn ok0 hg7 Tryd.func7 (by kernel_rfl) (by kernel_rfl) (by kernel_rfl) fun C => ?_, h⟩
    rw [e7]
    refine loopUp okf7 hg7 (fun i n => st7 t n i) t.size (fun i n => n = sumL t i) (fun N i n hi hn next => ?_) _ (sum_start t)
    show evP E7 G7 _ (lp7 3) (st7 t n i) (rk7 _ _ 3 _)
    rw [b7, hn, wrap_id (n := (i : Int) + 1) (by omega) (by omega), sum_step]
    refine br_dec (fun h1 => br_yes ⟨by omega, h1⟩ ?_) (fun h1 => ?_)
    · exact next (by omega) _ rfl
    · show _ = _
      have : i = t.size := by omega
      rw [this]
      rfl
  · exact h.elim
def decD (u : Nat) : List UInt8 := if h : u < 10 then [UInt8.ofNat (48 + u)] else decD (u / 10) ++ [UInt8.ofNat (48 + u % 10)]
  termination_by u
  decreasing_by omega
def dec (n : Int) : ByteArray := ⟨(match decide (n < 0) with | true => 45 :: decD n.natAbs | false => decD n.toNat).toArray⟩
def inN (n : Int) : Bool := decide (-9223372036854775808 ≤ n ∧ n ≤ 9223372036854775807)
def g30 : G1
  | [.val (.int .i64 n)], [], k => br (inN n) (k ⟨.val (.string (dec n)), [], []⟩) False
  | _, _, _ => False
theorem decD_lib (u : Nat) : decD u = Lib.decDigits u := by
  induction u using decD.induct with
  | case1 u h => rw [decD, Lib.decDigits, dif_pos h, dif_pos h]
  | case2 u h ih => rw [decD, Lib.decDigits, dif_neg h, dif_neg h, ih]
theorem dec_lib (n : Int) : dec n = ⟨(Lib.itoa n).toArray⟩ := by
  unfold dec Lib.itoa
  by_cases h : n < 0
  · rw [decide_eq_true h, if_pos h, decD_lib]
  · rw [decide_eq_false h, if_neg h, ← decD_lib]
def g33p : G1
  | [.val (.int .i64 n)], [], k => br (decide (0 ≤ n ∧ n ≤ 9223372036854775807)) (k ⟨.val (.string (dec n)), [], []⟩) False
  | _, _, _ => False
def gNo : G1 := fun _ _ _ => False
theorem hNo {f : Nat} : G1Ok Tryd.prog f gNo := fun _ _ _ h => h.elim
theorem decD_len (u : Nat) : (decD u).length ≤ u / 2 + 1 := by
  induction u using decD.induct with
  | case1 u h =>
    rw [decD, dif_pos h]
    simp
  | case2 u h ih =>
    rw [decD, dif_neg h, List.length_append, List.length_singleton]
    omega
theorem dig1 {m : Nat} (h : m < 10) : strOf [(IntKind.u8.wrap (IntKind.i64.wrap (48 + (m : Int))), ())] = ⟨[UInt8.ofNat (48 + m)].toArray⟩ := by
  rw [wrap_id (n := 48 + (m : Int)) (by omega) (by omega)]
  have e : IntKind.u8.wrap (48 + (m : Int)) = 48 + (m : Int) := by rw [IntKind.wrap_u8]; omega
  rw [e]
  unfold strOf
  simp only [List.map_cons, List.map_nil]
  congr 4
theorem cat1 (b : UInt8) (l : List UInt8) : (⟨[b].toArray⟩ : ByteArray) ++ ⟨l.toArray⟩ = ⟨(b :: l).toArray⟩ := by
  apply ByteArray.ext
  rw [ByteArray.data_append]
  simp
theorem dec_nn (m : Nat) : dec m = ⟨(decD m).toArray⟩ := by
  unfold dec
  rw [decide_eq_false (by omega)]
  rfl
noncomputable def E33p : Env := E0.of Tryd.f33
noncomputable def G33p : Gk := gk [(33, gNo)]
noncomputable def lp33p (n : Nat) : Code := (loopOf n (codeOf Tryd.f33)).getD .skip
noncomputable def ct33p (L : Lp) (R : Option Res → Prop) (n : Nat) : Kt := contOf E33p G33p L n (codeOf Tryd.f33) (endK E33p Tryd.f33.results.toList R)
noncomputable def rk33p (L : Lp) (R : Option Res → Prop) (n : Nat) (N : St → Prop) : Kt := rk (jof E33p (lp33p n)) N (ct33p L R n)
noncomputable def LOOP33p (L : Lp) (R : Option Res → Prop) (n : Nat) (st : St) : Prop := L (lp33p n) st (ct33p L R n)
theorem hg33p : HG Tryd.prog G33p := (hg_cons hNo hg_nil)
theorem okf33p : Ok Tryd.prog E33p := ok0.of Tryd.f33
theorem e33p (L : Lp) (R : Option Res → Prop) (n : Int) : (bodyP E0 G33p L Tryd.f33 [.val (.int .i64 n)] [] R) = (
    br (decide (n < -9223372036854775807)) (R (some { av := vS { data := #[45, 57, 50, 50, 51, 51, 55, 50, 48, 51, 54, 56, 53, 52, 55, 55, 53, 56, 48, 56] }, obs := [], outs := [] })) (br (decide (n < 0)) False (LOOP33p L R 6 { tm := [vI n, vU, vS { data := #[] }, vS { data := #[] }, vJ, vJ, vJ, vJ, vJ, vJ, vJ, vJ, vJ, vJ, vJ, vJ, vJ, vJ, vJ, vJ, vJ, vJ, vJ, vJ, vU, vU, vU, vU, vU, vU, vU], ob := [], nx := 1000000, ps := [] }))) := by kernel_rfl
def st33p (n : Int) (o : ByteArray) : St :=  ⟨[.val (.int .i64 n), vU, vS { data := #[] }, .val (.string o), vJ, vJ, vJ, vJ, vJ, vJ, vJ, vJ, vJ, vJ, vJ, vJ, vJ, vJ, vJ, vJ, vJ, vJ, vJ, vJ, vU, vU, vU, vU, vU, vU, vU], [], 1000000, []⟩
theorem b33p (L : Lp) (R : Option Res → Prop) (N : St → Prop) (n : Int) (o : ByteArray) : (evP E33p G33p L (lp33p 6) (st33p n o) (rk33p L R 6 N)) = (
    br (decide (n > 9)) (br (decide ((strOf [(IntKind.u8.wrap (IntKind.i64.wrap (48 + n.tmod 10)), ())]).size + o.size ≤ 9223372036854775807)) (N { tm := [vI (IntKind.i64.wrap (n.tdiv 10)), vU, vS { data := #[] }, vS (strOf [(IntKind.u8.wrap (IntKind.i64.wrap (48 + n.tmod 10)), ())] ++ o), vJ, vJ, vJ, vJ, vJ, vJ, vJ, vJ, vJ, vJ, vJ, vJ, vJ, vJ, vJ, vJ, vJ, vJ, vJ, vJ, vU, vU, vU, vU, vU, vU, vU], ob := [], nx := 1000000, ps := [] }) False) (br (decide ((strOf [(IntKind.u8.wrap (IntKind.i64.wrap (48 + n)), ())]).size + o.size ≤ 9223372036854775807)) (R (some { av := vS (strOf [(IntKind.u8.wrap (IntKind.i64.wrap (48 + n)), ())] ++ o), obs := [], outs := [] })) False)) := by kernel_rfl
theorem h33p : G1Ok Tryd.prog 33 g33p := by
  intro args obs k h
  unfold g33p at h
  split at h
  · rename_i k n
    obtain ⟨hn, h⟩ := brd h
    obtain ⟨n, rfl⟩ : ∃ m : Nat, n = m := ⟨n.toNat, by omega⟩
    refine ⟨_, ctr_fn ok0 hg33p Tryd.func33 (by kernel_rfl) (by kernel_rfl) (by kernel_rfl) fun C => ?_, h⟩
    rw [e33p]
    refine br_no (by omega) (br_no (by omega) ?_)
    have hl := decD_len n
    refine loopR okf33p hg33p (ι := {p : Nat × List UInt8 // p.1 ≤ n ∧ decD p.1 ++ p.2 = decD n}) (fun p => st33p p.1.1 ⟨p.1.2.toArray⟩) (fun p => p.1.1) (fun ⟨(m, l), hm, he⟩ => ?_) ⟨(n, []), Nat.le_refl _, by simp⟩
    show evP E33p G33p _ (lp33p 6) (st33p m ⟨l.toArray⟩) (rk33p _ _ 6 _)
    simp only at hm he
    have hlen := congrArg List.length he
    rw [List.length_append] at hlen
    have hsz : (⟨l.toArray⟩ : ByteArray).size = l.length := by show l.toArray.size = _; simp
    rw [b33p]
    refine br_dec (fun h2 => ?_) (fun h2 => ?_)
    · have e1 : (48 + (m : Int).tmod 10) = 48 + ((m % 10 : Nat) : Int) := rfl
      rw [e1, dig1 (Nat.mod_lt _ (by omega)), hsz]
      refine br_yes (by show 1 + l.length ≤ _; omega) ?_
      have hq : (m : Int).tdiv 10 = ((m / 10 : Nat) : Int) := rfl
      rw [hq, wrap_id (by omega) (by omega), cat1]
      refine ⟨⟨(m / 10, UInt8.ofNat (48 + m % 10) :: l), by show m / 10 ≤ n; omega, ?_⟩, rfl, by show m / 10 < m; omega⟩
      show decD (m / 10) ++ (UInt8.ofNat (48 + m % 10) :: l) = decD n
      rw [← he]
      conv => rhs; rw [decD]
      rw [dif_neg (by omega), List.append_assoc]
      rfl
    · have hm9 : m < 10 := by omega
      rw [dig1 hm9, hsz]
      refine br_yes (by show 1 + l.length ≤ _; omega) ?_
      show _ = _
      rw [cat1, dec_nn, ← he, decD, dif_pos hm9]
      rfl
  · exact h.elim
def sealT (t : ByteArray) : ByteArray := match decide ((t.size : Int) > 400) with
  | true => ByteArray.empty
  | false => dec (sumN t) ++ ⟨#[58]⟩ ++ t
def g13 : G1
  | [.val (.string t)], [], k => br (decide (t.size ≤ 4611686018427387904)) (k ⟨.val (.string (sealT t)), [], []⟩) False
  | _, _, _ => False
theorem dec_size {n : Int} (h0 : 0 ≤ n) (h1 : n ≤ 9223372036854775807) : (dec n).size ≤ n.toNat / 2 + 1 := by
  obtain ⟨m, rfl⟩ : ∃ m : Nat, n = m := ⟨n.toNat, by omega⟩
  rw [dec_nn]
  have := decD_len m
  show (decD m).toArray.size ≤ _
  simpa using this
theorem inN_of {n : Int} (h0 : -9223372036854775808 ≤ n) (h1 : n ≤ 9223372036854775807) : inN n = true := decide_eq_true ⟨h0, h1⟩
end Go.Proofs.YtkjnijddbiconaaDoor.Ev
