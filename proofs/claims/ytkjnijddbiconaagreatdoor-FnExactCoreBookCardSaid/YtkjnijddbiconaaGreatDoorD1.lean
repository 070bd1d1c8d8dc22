/- Sums, numbers as texts. -/
import Derived.Test.YtkjnijddbiconaaGreatDoorDS
import Derived.Lib.ItoaNum
namespace Go.Proofs.YtkjnijddbiconaaGreatDoor.Ev
open Go
set_option linter.unusedVariables false
set_option linter.unusedSimpArgs false
set_option maxRecDepth 100000
def sumL (t : ByteArray) : Nat → Int
  | 0 => 1 + (t.size : Int).tmod 997
  | i + 1 => (257 * sumL t i + byteAt t i + 1).tmod 65521
def sumN (t : ByteArray) : Int := sumL t t.size
def g116 : G1
  | [.val (.string t)], [], k => br (decide (t.size ≤ 4611686018427387904)) (k ⟨.val (.int .i64 (sumN t)), [], []⟩) False
  | _, _, _ => False
theorem sumL_lt (t : ByteArray) : ∀ (i : Nat), 0 ≤ sumL t i ∧ sumL t i ≤ 65520
  | 0 => by
    show 0 ≤ 1 + (t.size : Int).tmod 997 ∧ 1 + (t.size : Int).tmod 997 ≤ 65520
    rw [Int.tmod_eq_emod_of_nonneg (by omega)]
    omega
  | i + 1 => by
    obtain ⟨h1, h2⟩ := sumL_lt t i
    obtain ⟨h3, h4⟩ := byteAt_lt t i
    show 0 ≤ (257 * sumL t i + byteAt t i + 1).tmod 65521 ∧ (257 * sumL t i + byteAt t i + 1).tmod 65521 ≤ 65520
    rw [Int.tmod_eq_emod_of_nonneg (by omega)]
    omega
theorem sumN_lt (t : ByteArray) : 0 ≤ sumN t ∧ sumN t ≤ 65520 := sumL_lt t _
theorem sum_start (t : ByteArray) : IntKind.i64.wrap (1 + (t.size : Int).tmod 997) = sumL t 0 := by
  have := sumL_lt t 0
  exact wrap_id (n := sumL t 0) (by omega) (by omega)
theorem sum_step (t : ByteArray) (i : Nat) : (IntKind.i64.wrap (IntKind.i64.wrap (IntKind.i64.wrap (257 * sumL t i) + IntKind.i64.wrap (byteAt t i)) + 1)).tmod 65521 = sumL t (i + 1) := by
  obtain ⟨h1, h2⟩ := sumL_lt t i
  obtain ⟨h3, h4⟩ := byteAt_lt t i
  rw [wrap_id (n := 257 * sumL t i) (by omega) (by omega), wrap_id (n := byteAt t i) (by omega) (by omega), wrap_id (n := 257 * sumL t i + byteAt t i) (by omega) (by omega), wrap_id (n := 257 * sumL t i + byteAt t i + 1) (by omega) (by omega)]
  rfl
noncomputable def E116 : Env := E0.of Tryz.f116
noncomputable def G116 : Gk := gk []
noncomputable def lp116 (n : Nat) : Code := (loopOf n (codeOf Tryz.f116)).getD .skip
noncomputable def ct116 (L : Lp) (R : Option Res → Prop) (n : Nat) : Kt := contOf E116 G116 L n (codeOf Tryz.f116) (endK E116 Tryz.f116.results.toList R)
noncomputable def rk116 (L : Lp) (R : Option Res → Prop) (n : Nat) (N : St → Prop) : Kt := rk (jof E116 (lp116 n)) N (ct116 L R n)
noncomputable def rkn116 (L : Lp) (R : Option Res → Prop) (n : Nat) (N : St → Prop) (m : Nat) (N2 : St → Prop) : Kt := rk (jof E116 (lp116 m)) N2 (contOf E116 G116 L m (lp116 n) (rk116 L R n N))
noncomputable def LOOPN116 (L : Lp) (R : Option Res → Prop) (n : Nat) (N : St → Prop) (m : Nat) (st : St) : Prop := L (lp116 m) st (contOf E116 G116 L m (lp116 n) (rk116 L R n N))
noncomputable def LOOP116 (L : Lp) (R : Option Res → Prop) (n : Nat) (st : St) : Prop := L (lp116 n) st (ct116 L R n)
theorem hg116 : HG Tryz.prog G116 := hg_nil
theorem okf116 : Ok Tryz.prog E116 := ok0.of Tryz.f116
theorem e116 (L : Lp) (R : Option Res → Prop) (t : ByteArray) : (bodyP E0 G116 L Tryz.f116 [.val (.string t)] [] R) = (
    LOOP116 L R 3 { tm := [vS t, vU, vI 0, vI (IntKind.i64.wrap (1 + (↑t.size : Int).tmod 997)), vI 0, vJ, vJ, vJ, vJ, vJ, vJ, vJ, vJ, vJ, vJ, vJ, vJ, vJ, vJ, vJ, vJ, vJ, vJ, vJ, vU], ob := [], nx := 1000000, ps := [] }) := by kernel_rfl
def st116 (t : ByteArray) (n i : Int) : St :=  ⟨[vS t, vU, vI 0, .val (.int .i64 n), .val (.int .i64 i), vJ, vJ, vJ, vJ, vJ, vJ, vJ, vJ, vJ, vJ, vJ, vJ, vJ, vJ, vJ, vJ, vJ, vJ, vJ, vU], [], 1000000, []⟩
theorem b116 (L : Lp) (R : Option Res → Prop) (N : St → Prop) (t : ByteArray) (n i : Int) : (evP E116 G116 L (lp116 3) (st116 t n i) (rk116 L R 3 N)) = (
    br (decide (i < (↑t.size : Int))) (br (decide (0 ≤ i ∧ i < (↑t.size : Int))) (N { tm := [vS t, vU, vI 0, vI ((IntKind.i64.wrap (IntKind.i64.wrap (IntKind.i64.wrap (n * 257) + IntKind.i64.wrap (byteAt t i)) + 1)).tmod 65521), vI (IntKind.i64.wrap (i + 1)), vJ, vJ, vJ, vJ, vJ, vJ, vJ, vJ, vJ, vJ, vJ, vJ, vJ, vJ, vJ, vJ, vJ, vJ, vJ, vU], ob := [], nx := 1000000, ps := [] }) False) (R (some { av := vI n, obs := [], outs := [] }))) := by kernel_rfl
theorem h116 : G1Ok Tryz.prog 116 g116 := by
  intro args obs k h
  unfold g116 at h
  split at h
  · rename_i k t
    obtain ⟨hlen, h⟩ := brd h
    refine ⟨_, ctr_fn ok0 hg116 Tryz.func116 (by kernel_rfl) (by kernel_rfl) (by kernel_rfl) fun C => ?_, h⟩
    rw [e116]
    refine loopUp okf116 hg116 (fun i n => st116 t n i) t.size (fun i n => n = sumL t i) (fun N i n hi hn next => ?_) _ (sum_start t)
    show evP E116 G116 _ (lp116 3) (st116 t n i) (rk116 _ _ 3 _)
    rw [b116, hn, wrap_id (n := (i : Int) + 1) (by omega) (by omega), Int.mul_comm (sumL t i) 257, sum_step]
    refine br_dec (fun h1 => br_yes ⟨by omega, h1⟩ ?_) (fun h1 => ?_)
    · exact next (by omega) _ rfl
    · show _ = _
      have : i = t.size := by omega
      rw [this]
      rfl
  · exact h.elim
noncomputable def E115 : Env := E0.of Tryz.f115
noncomputable def G115 : Gk := gk []
noncomputable def lp115 (n : Nat) : Code := (loopOf n (codeOf Tryz.f115)).getD .skip
noncomputable def ct115 (L : Lp) (R : Option Res → Prop) (n : Nat) : Kt := contOf E115 G115 L n (codeOf Tryz.f115) (endK E115 Tryz.f115.results.toList R)
noncomputable def rk115 (L : Lp) (R : Option Res → Prop) (n : Nat) (N : St → Prop) : Kt := rk (jof E115 (lp115 n)) N (ct115 L R n)
noncomputable def rkn115 (L : Lp) (R : Option Res → Prop) (n : Nat) (N : St → Prop) (m : Nat) (N2 : St → Prop) : Kt := rk (jof E115 (lp115 m)) N2 (contOf E115 G115 L m (lp115 n) (rk115 L R n N))
noncomputable def LOOPN115 (L : Lp) (R : Option Res → Prop) (n : Nat) (N : St → Prop) (m : Nat) (st : St) : Prop := L (lp115 m) st (contOf E115 G115 L m (lp115 n) (rk115 L R n N))
noncomputable def LOOP115 (L : Lp) (R : Option Res → Prop) (n : Nat) (st : St) : Prop := L (lp115 n) st (ct115 L R n)
theorem hg115 : HG Tryz.prog G115 := hg_nil
theorem okf115 : Ok Tryz.prog E115 := ok0.of Tryz.f115
theorem e115 (L : Lp) (R : Option Res → Prop) (t : ByteArray) : (bodyP E0 G115 L Tryz.f115 [.val (.string t)] [] R) = (
    LOOP115 L R 3 { tm := [vS t, vU, vI 0, vI (IntKind.i64.wrap (1 + (↑t.size : Int).tmod 997)), vJ, vJ, vJ, vJ, vJ, vJ, vI (↑t.size : Int), vI 0, vJ, vJ, vJ, vJ, vJ, vJ, vJ, vJ, vJ, vJ, vJ, vJ, vU], ob := [], nx := 1000000, ps := [] }) := by kernel_rfl
def st115 (t : ByteArray) (n i : Int) : St :=  ⟨[vS t, vU, vI 0, .val (.int .i64 n), vJ, vJ, vJ, vJ, vJ, vJ, vI (↑t.size : Int), .val (.int .i64 i), vJ, vJ, vJ, vJ, vJ, vJ, vJ, vJ, vJ, vJ, vJ, vJ, vU], [], 1000000, []⟩
theorem b115 (L : Lp) (R : Option Res → Prop) (N : St → Prop) (t : ByteArray) (n i : Int) : (evP E115 G115 L (lp115 3) (st115 t n i) (rk115 L R 3 N)) = (
    br (decide (i < (↑t.size : Int))) (br (decide (0 ≤ i ∧ i < (↑t.size : Int))) (N { tm := [vS t, vU, vI 0, vI ((IntKind.i64.wrap (IntKind.i64.wrap (IntKind.i64.wrap (257 * n) + IntKind.i64.wrap (byteAt t i)) + 1)).tmod 65521), vJ, vJ, vJ, vJ, vJ, vJ, vI (↑t.size : Int), vI (IntKind.i64.wrap (i + 1)), vJ, vJ, vJ, vJ, vJ, vJ, vJ, vJ, vJ, vJ, vJ, vJ, vU], ob := [], nx := 1000000, ps := [] }) False) (R (some { av := vI n, obs := [], outs := [] }))) := by kernel_rfl
theorem h115 : G1Ok Tryz.prog 115 g116 := by
  intro args obs k h
  unfold g116 at h
  split at h
  · rename_i k t
    obtain ⟨hlen, h⟩ := brd h
    refine ⟨_, ctr_fn ok0 hg115 Tryz.func115 (by kernel_rfl) (by kernel_rfl) (by kernel_rfl) fun C => ?_, h⟩
    rw [e115]
    refine loopUp okf115 hg115 (fun i n => st115 t n i) t.size (fun i n => n = sumL t i) (fun N i n hi hn next => ?_) _ (sum_start t)
    show evP E115 G115 _ (lp115 3) (st115 t n i) (rk115 _ _ 3 _)
    rw [b115, hn, wrap_id (n := (i : Int) + 1) (by omega) (by omega), sum_step]
    refine br_dec (fun h1 => br_yes ⟨by omega, h1⟩ ?_) (fun h1 => ?_)
    · exact next (by omega) _ rfl
    · show _ = _
      have : i = t.size := by omega
      rw [this]
      rfl
  · exact h.elim
def decD (u : Nat) : List UInt8 := if h : u < 10 then [UInt8.ofNat (48 + u)] else decD (u / 10) ++ [UInt8.ofNat (48 + u % 10)]
  termination_by u
  decreasing_by omega
def dec (n : Int) : ByteArray := ⟨(match decide (n < 0) with | true => 45 :: decD n.natAbs | false => decD n.toNat).toArray⟩
def inN (n : Int) : Bool := decide (-9223372036854775808 ≤ n ∧ n ≤ 9223372036854775807)
def g177 : G1
  | [.val (.int .i64 n)], [], k => br (inN n) (k ⟨.val (.string (dec n)), [], []⟩) False
  | _, _, _ => False
theorem decD_lib (u : Nat) : decD u = Lib.decDigits u := by
  induction u using decD.induct with
  | case1 u h => rw [decD, Lib.decDigits, dif_pos h, dif_pos h]
  | case2 u h ih => rw [decD, Lib.decDigits, dif_neg h, dif_neg h, ih]
theorem dec_lib (n : Int) : dec n = ⟨(Lib.itoa n).toArray⟩ := by
  unfold dec Lib.itoa
  by_cases h : n < 0
  · rw [decide_eq_true h, if_pos h, decD_lib]
  · rw [decide_eq_false h, if_neg h, ← decD_lib]
def g164p : G1
  | [.val (.int .i64 n)], [], k => br (decide (0 ≤ n ∧ n ≤ 9223372036854775807)) (k ⟨.val (.string (dec n)), [], []⟩) False
  | _, _, _ => False
def gNo : G1 := fun _ _ _ => False
theorem hNo {f : Nat} : G1Ok Tryz.prog f gNo := fun _ _ _ h => h.elim
theorem decD_len (u : Nat) : (decD u).length ≤ u / 2 + 1 := by
  induction u using decD.induct with
  | case1 u h =>
    rw [decD, dif_pos h]
    simp
  | case2 u h ih =>
    rw [decD, dif_neg h, List.length_append, List.length_singleton]
    omega
theorem dig1 {m : Nat} (h : m < 10) : strOf [(IntKind.u8.wrap (IntKind.i64.wrap (48 + (m : Int))), ())] = ⟨[UInt8.ofNat (48 + m)].toArray⟩ := by
  rw [wrap_id (n := 48 + (m : Int)) (by omega) (by omega)]
  have e : IntKind.u8.wrap (48 + (m : Int)) = 48 + (m : Int) := by rw [IntKind.wrap_u8]; omega
  rw [e]
  unfold strOf
  simp only [List.map_cons, List.map_nil]
  congr 4
theorem cat1 (b : UInt8) (l : List UInt8) : (⟨[b].toArray⟩ : ByteArray) ++ ⟨l.toArray⟩ = ⟨(b :: l).toArray⟩ := by
  apply ByteArray.ext
  rw [ByteArray.data_append]
  simp
theorem dec_nn (m : Nat) : dec m = ⟨(decD m).toArray⟩ := by
  unfold dec
  rw [decide_eq_false (by omega)]
  rfl
noncomputable def E164p : Env := E0.of Tryz.f164
noncomputable def G164p : Gk := gk [(164, gNo)]
noncomputable def lp164p (n : Nat) : Code := (loopOf n (codeOf Tryz.f164)).getD .skip
noncomputable def ct164p (L : Lp) (R : Option Res → Prop) (n : Nat) : Kt := contOf E164p G164p L n (codeOf Tryz.f164) (endK E164p Tryz.f164.results.toList R)
noncomputable def rk164p (L : Lp) (R : Option Res → Prop) (n : Nat) (N : St → Prop) : Kt := rk (jof E164p (lp164p n)) N (ct164p L R n)
noncomputable def rkn164p (L : Lp) (R : Option Res → Prop) (n : Nat) (N : St → Prop) (m : Nat) (N2 : St → Prop) : Kt := rk (jof E164p (lp164p m)) N2 (contOf E164p G164p L m (lp164p n) (rk164p L R n N))
noncomputable def LOOPN164p (L : Lp) (R : Option Res → Prop) (n : Nat) (N : St → Prop) (m : Nat) (st : St) : Prop := L (lp164p m) st (contOf E164p G164p L m (lp164p n) (rk164p L R n N))
noncomputable def LOOP164p (L : Lp) (R : Option Res → Prop) (n : Nat) (st : St) : Prop := L (lp164p n) st (ct164p L R n)
theorem hg164p : HG Tryz.prog G164p := (hg_cons hNo hg_nil)
theorem okf164p : Ok Tryz.prog E164p := ok0.of Tryz.f164
theorem e164p (L : Lp) (R : Option Res → Prop) (n : Int) : (bodyP E0 G164p L Tryz.f164 [.val (.int .i64 n)] [] R) = (
    br (decide (n < -9223372036854775807)) (R (some { av := vS { data := #[45, 57, 50, 50, 51, 51, 55, 50, 48, 51, 54, 56, 53, 52, 55, 55, 53, 56, 48, 56] }, obs := [], outs := [] })) (br (decide (n < 0)) False (LOOP164p L R 6 { tm := [vI n, vU, vS { data := #[] }, vS { data := #[] }, vJ, vJ, vJ, vJ, vJ, vJ, vJ, vJ, vJ, vJ, vJ, vJ, vJ, vJ, vJ, vJ, vJ, vJ, vJ, vJ, vU, vU, vU, vU, vU, vU, vU], ob := [], nx := 1000000, ps := [] }))) := by kernel_rfl
def st164p (n : Int) (o : ByteArray) : St :=  ⟨[.val (.int .i64 n), vU, vS { data := #[] }, .val (.string o), vJ, vJ, vJ, vJ, vJ, vJ, vJ, vJ, vJ, vJ, vJ, vJ, vJ, vJ, vJ, vJ, vJ, vJ, vJ, vJ, vU, vU, vU, vU, vU, vU, vU], [], 1000000, []⟩
theorem b164p (L : Lp) (R : Option Res → Prop) (N : St → Prop) (n : Int) (o : ByteArray) : (evP E164p G164p L (lp164p 6) (st164p n o) (rk164p L R 6 N)) = (
    br (decide (n > 9)) (br (decide ((strOf [(IntKind.u8.wrap (IntKind.i64.wrap (48 + n.tmod 10)), ())]).size + o.size ≤ 9223372036854775807)) (N { tm := [vI (IntKind.i64.wrap (n.tdiv 10)), vU, vS { data := #[] }, vS (strOf [(IntKind.u8.wrap (IntKind.i64.wrap (48 + n.tmod 10)), ())] ++ o), vJ, vJ, vJ, vJ, vJ, vJ, vJ, vJ, vJ, vJ, vJ, vJ, vJ, vJ, vJ, vJ, vJ, vJ, vJ, vJ, vU, vU, vU, vU, vU, vU, vU], ob := [], nx := 1000000, ps := [] }) False) (br (decide ((strOf [(IntKind.u8.wrap (IntKind.i64.wrap (48 + n)), ())]).size + o.size ≤ 9223372036854775807)) (R (some { av := vS (strOf [(IntKind.u8.wrap (IntKind.i64.wrap (48 + n)), ())] ++ o), obs := [], outs := [] })) False)) := by kernel_rfl
theorem h164p : G1Ok Tryz.prog 164 g164p := by
  intro args obs k h
  unfold g164p at h
  split at h
  · rename_i k n
    obtain ⟨hn, h⟩ := brd h
    obtain ⟨n, rfl⟩ : ∃ m : Nat, n = m := ⟨n.toNat, by omega⟩
    refine ⟨_, ctr_fn ok0 hg164p Tryz.func164 (by kernel_rfl) (by kernel_rfl) (by kernel_rfl) fun C => ?_, h⟩
    rw [e164p]
    refine br_no (by omega) (br_no (by omega) ?_)
    have hl := decD_len n
    refine loopR okf164p hg164p (ι := {p : Nat × List UInt8 // p.1 ≤ n ∧ decD p.1 ++ p.2 = decD n}) (fun p => st164p p.1.1 ⟨p.1.2.toArray⟩) (fun p => p.1.1) (fun ⟨(m, l), hm, he⟩ => ?_) ⟨(n, []), Nat.le_refl _, by simp⟩
    show evP E164p G164p _ (lp164p 6) (st164p m ⟨l.toArray⟩) (rk164p _ _ 6 _)
    simp only at hm he
    have hlen := congrArg List.length he
    rw [List.length_append] at hlen
    have hsz : (⟨l.toArray⟩ : ByteArray).size = l.length := by show l.toArray.size = _; simp
    rw [b164p]
    refine br_dec (fun h2 => ?_) (fun h2 => ?_)
    · have e1 : (48 + (m : Int).tmod 10) = 48 + ((m % 10 : Nat) : Int) := rfl
      rw [e1, dig1 (Nat.mod_lt _ (by omega)), hsz]
      refine br_yes (by show 1 + l.length ≤ _; omega) ?_
      have hq : (m : Int).tdiv 10 = ((m / 10 : Nat) : Int) := rfl
      rw [hq, wrap_id (by omega) (by omega), cat1]
      refine ⟨⟨(m / 10, UInt8.ofNat (48 + m % 10) :: l), by show m / 10 ≤ n; omega, ?_⟩, rfl, by show m / 10 < m; omega⟩
      show decD (m / 10) ++ (UInt8.ofNat (48 + m % 10) :: l) = decD n
      rw [← he]
      conv => rhs; rw [decD]
      rw [dif_neg (by omega), List.append_assoc]
      rfl
    · have hm9 : m < 10 := by omega
      rw [dig1 hm9, hsz]
      refine br_yes (by show 1 + l.length ≤ _; omega) ?_
      show _ = _
      rw [cat1, dec_nn, ← he, decD, dif_pos hm9]
      rfl
  · exact h.elim
def sealT (t : ByteArray) : ByteArray := match decide ((t.size : Int) > 400) with
  | true => ByteArray.empty
  | false => dec (sumN t) ++ ⟨#[58]⟩ ++ t
def g301 : G1
  | [.val (.string t)], [], k => br (decide (t.size ≤ 4611686018427387904)) (k ⟨.val (.string (sealT t)), [], []⟩) False
  | _, _, _ => False
theorem dec_size {n : Int} (h0 : 0 ≤ n) (h1 : n ≤ 9223372036854775807) : (dec n).size ≤ n.toNat / 2 + 1 := by
  obtain ⟨m, rfl⟩ : ∃ m : Nat, n = m := ⟨n.toNat, by omega⟩
  rw [dec_nn]
  have := decD_len m
  show (decD m).toArray.size ≤ _
  simpa using this
noncomputable def E301 : Env := E0.of Tryz.f301
noncomputable def G301 : Gk := gk [(116, g116), (164, g164p)]
noncomputable def lp301 (n : Nat) : Code := (loopOf n (codeOf Tryz.f301)).getD .skip
noncomputable def ct301 (L : Lp) (R : Option Res → Prop) (n : Nat) : Kt := contOf E301 G301 L n (codeOf Tryz.f301) (endK E301 Tryz.f301.results.toList R)
noncomputable def rk301 (L : Lp) (R : Option Res → Prop) (n : Nat) (N : St → Prop) : Kt := rk (jof E301 (lp301 n)) N (ct301 L R n)
noncomputable def rkn301 (L : Lp) (R : Option Res → Prop) (n : Nat) (N : St → Prop) (m : Nat) (N2 : St → Prop) : Kt := rk (jof E301 (lp301 m)) N2 (contOf E301 G301 L m (lp301 n) (rk301 L R n N))
noncomputable def LOOPN301 (L : Lp) (R : Option Res → Prop) (n : Nat) (N : St → Prop) (m : Nat) (st : St) : Prop := L (lp301 m) st (contOf E301 G301 L m (lp301 n) (rk301 L R n N))
noncomputable def LOOP301 (L : Lp) (R : Option Res → Prop) (n : Nat) (st : St) : Prop := L (lp301 n) st (ct301 L R n)
theorem hg301 : HG Tryz.prog G301 := (hg_cons h116 (hg_cons h164p hg_nil))
theorem okf301 : Ok Tryz.prog E301 := ok0.of Tryz.f301
theorem e301 (L : Lp) (R : Option Res → Prop) (t : ByteArray) : (bodyP E0 G301 L Tryz.f301 [.val (.string t)] [] R) = (
    br (decide ((↑t.size : Int) > 400)) (R (some { av := vS { data := #[] }, obs := [], outs := [] })) (br (decide (t.size ≤ 4611686018427387904)) (br (decide (0 ≤ sumN t ∧ sumN t ≤ 9223372036854775807)) (br (decide ((dec (sumN t)).size + 1 ≤ 9223372036854775807)) (br (decide ((dec (sumN t) ++ { data := #[58] }).size + t.size ≤ 9223372036854775807)) (R (some { av := vS (dec (sumN t) ++ { data := #[58] } ++ t), obs := [], outs := [] })) False) False) False) False)) := by kernel_rfl
theorem h301 : G1Ok Tryz.prog 301 g301 := by
  intro args obs k h
  unfold g301 at h
  split at h
  · rename_i k t
    obtain ⟨hs, h⟩ := br_and h
    refine ⟨_, ctr_fn ok0 hg301 Tryz.func301 (by kernel_rfl) (by kernel_rfl) (by kernel_rfl) fun C => ?_, h⟩
    rw [e301]
    refine br_intro (fun h1 => ?_) (fun h1 => br_t hs (br_yes ?_ (br_yes ?_ (br_yes ?_ ?_))))
    · show _ = _
      unfold sealT
      rw [h1]
      rfl
    · have := sumN_lt t
      omega
    · have := sumN_lt t
      have := dec_size (n := sumN t) (by omega) (by omega)
      omega
    · have := sumN_lt t
      have := dec_size (n := sumN t) (by omega) (by omega)
      have h1 := of_decide_eq_false h1
      rw [ByteArray.size_append]
      show (dec (sumN t)).size + 1 + t.size ≤ _
      omega
    · show _ = _
      unfold sealT
      rw [h1]
  · exact h.elim
theorem inN_of {n : Int} (h0 : -9223372036854775808 ≤ n) (h1 : n ≤ 9223372036854775807) : inN n = true := decide_eq_true ⟨h0, h1⟩
end Go.Proofs.YtkjnijddbiconaaGreatDoor.Ev
