/- Sums, numbers as texts. -/
import Derived.Test.YtkjnijddbiconaaGreatDoorDS
import Derived.Lib.ItoaNum
namespace Go.Proofs.YtkjnijddbiconaaGreatDoor.Ev
open Go
set_option linter.unusedVariables false
set_option linter.unusedSimpArgs false
set_option maxRecDepth 100000
def decD (u : Nat) : List UInt8 := if h : u < 10 then [UInt8.ofNat (48 + u)] else decD (u / 10) ++ [UInt8.ofNat (48 + u % 10)]
  termination_by u
  decreasing_by omega
def dec (n : Int) : ByteArray := ⟨(match decide (n < 0) with | true => 45 :: decD n.natAbs | false => decD n.toNat).toArray⟩
def inN (n : Int) : Bool := decide (-9223372036854775808 ≤ n ∧ n ≤ 9223372036854775807)
def g177 : G1
  | [.val (.int .i64 n)], [], k => br (inN n) (k ⟨.val (.string (dec n)), [], []⟩) False
  | _, _, _ => False
theorem decD_lib (u : Nat) : decD u = Lib.decDigits u := by
  induction u using decD.induct with
  | case1 u h => rw [decD, Lib.decDigits, dif_pos h, dif_pos h]
  | case2 u h ih => rw [decD, Lib.decDigits, dif_neg h, dif_neg h, ih]
theorem dec_lib (n : Int) : dec n = ⟨(Lib.itoa n).toArray⟩ := by
  unfold dec Lib.itoa
  by_cases h : n < 0
  · rw [decide_eq_true h, if_pos h, decD_lib]
  · rw [decide_eq_false h, if_neg h, ← decD_lib]
def g164p : G1
  | [.val (.int .i64 n)], [], k => br (decide (0 ≤ n ∧ n ≤ 9223372036854775807)) (k ⟨.val (.string (dec n)), [], []⟩) False
  | _, _, _ => False
def gNo : G1 := fun _ _ _ => False
theorem hNo {f : Nat} : G1Ok Tryz.prog f gNo := fun _ _ _ h => h.elim
theorem decD_len (u : Nat) : (decD u).length ≤ u / 2 + 1 := by
  induction u using decD.induct with
  | case1 u h =>
    rw [decD, dif_pos h]
    simp
  | case2 u h ih =>
    rw [decD, dif_neg h, List.length_append, List.length_singleton]
    omega
theorem dig1 {m : Nat} (h : m < 10) : strOf [(IntKind.u8.wrap (IntKind.i64.wrap (48 + (m : Int))), ())] = ⟨[UInt8.ofNat (48 + m)].toArray⟩ := by
  rw [wrap_id (n := 48 + (m : Int)) (by omega) (by omega)]
  have e : IntKind.u8.wrap (48 + (m : Int)) = 48 + (m : Int) := by rw [IntKind.wrap_u8]; omega
  rw [e]
  unfold strOf
  simp only [List.map_cons, List.map_nil]
  congr 4
theorem cat1 (b : UInt8) (l : List UInt8) : (⟨[b].toArray⟩ : ByteArray) ++ ⟨l.toArray⟩ = ⟨(b :: l).toArray⟩ := by
  apply ByteArray.ext
  rw [ByteArray.data_append]
  simp
theorem dec_nn (m : Nat) : dec m = ⟨(decD m).toArray⟩ := by
  unfold dec
  rw [decide_eq_false (by omega)]
  rfl
noncomputable def E164p : Env := E0.of Tryz.f164
noncomputable def G164p : Gk := gk [(164, gNo)]
noncomputable def lp164p (n : Nat) : Code := (loopOf n (codeOf Tryz.f164)).getD .skip
noncomputable def ct164p (L : Lp) (R : Option Res → Prop) (n : Nat) : Kt := contOf E164p G164p L n (codeOf Tryz.f164) (endK E164p Tryz.f164.results.toList R)
noncomputable def rk164p (L : Lp) (R : Option Res → Prop) (n : Nat) (N : St → Prop) : Kt := rk (jof E164p (lp164p n)) N (ct164p L R n)
noncomputable def LOOP164p (L : Lp) (R : Option Res → Prop) (n : Nat) (st : St) : Prop := L (lp164p n) st (ct164p L R n)
theorem hg164p : HG Tryz.prog G164p := (hg_cons hNo hg_nil)
theorem okf164p : Ok Tryz.prog E164p := ok0.of Tryz.f164
theorem e164p (L : Lp) (R : Option Res → Prop) (n : Int) : (bodyP E0 G164p L Tryz.f164 [.val (.int .i64 n)] [] R) = (
    br (decide (n < -9223372036854775807)) (R (some { av := vS { data := #[45, 57, 50, 50, 51, 51, 55, 50, 48, 51, 54, 56, 53, 52, 55, 55, 53, 56, 48, 56] }, obs := [], outs := [] })) (br (decide (n < 0)) False (LOOP164p L R 6 { tm := [vI n, vU, vS { data := #[] }, vS { data := #[] }, vJ, vJ, vJ, vJ, vJ, vJ, vJ, vJ, vJ, vJ, vJ, vJ, vJ, vJ, vJ, vJ, vJ, vJ, vJ, vJ, vU, vU, vU, vU, vU, vU, vU], ob := [], nx := 1000000, ps := [] }))) := by kernel_rfl
def st164p (n : Int) (o : ByteArray) : St :=  ⟨[.val (.int .i64 n), vU, vS { data := #[] }, .val (.string o), vJ, vJ, vJ, vJ, vJ, vJ, vJ, vJ, vJ, vJ, vJ, vJ, vJ, vJ, vJ, vJ, vJ, vJ, vJ, vJ, vU, vU, vU, vU, vU, vU, vU], [], 1000000, []⟩
theorem b164p (L : Lp) (R : Option Res → Prop) (N : St → Prop) (n : Int) (o : ByteArray) : (evP E164p G164p L (lp164p 6) (st164p n o) (rk164p L R 6 N)) = (
    br (decide (n > 9)) (br (decide ((strOf [(IntKind.u8.wrap (IntKind.i64.wrap (48 + n.tmod 10)), ())]).size + o.size ≤ 9223372036854775807)) (N { tm := [vI (IntKind.i64.wrap (n.tdiv 10)), vU, vS { data := #[] }, vS (strOf [(IntKind.u8.wrap (IntKind.i64.wrap (48 + n.tmod 10)), ())] ++ o), vJ, vJ, vJ, vJ, vJ, vJ, vJ, vJ, vJ, vJ, vJ, vJ, vJ, vJ, vJ, vJ, vJ, vJ, vJ, vJ, vU, vU, vU, vU, vU, vU, vU], ob := [], nx := 1000000, ps := [] }) False) (br (decide ((strOf [(IntKind.u8.wrap (IntKind.i64.wrap (48 + n)), ())]).size + o.size ≤ 9223372036854775807)) (R (some { av := vS (strOf [(IntKind.u8.wrap (IntKind.i64.wrap (48 + n)), ())] ++ o), obs := [], outs := [] })) False)) := by kernel_rfl
theorem h164p : G1Ok Tryz.prog 164 g164p := by
  intro args obs k h
  unfold g164p at h
  split at h
  · rename_i k n
    obtain ⟨hn, h⟩ := brd h
    obtain ⟨n, rfl⟩ : ∃ m : Nat, n = m := ⟨n.toNat, by omega⟩
    refine ⟨_, ctr_fn ok0 hg164p Tryz.func164 (by kernel_rfl) (by kernel_rfl) (by kernel_rfl) fun C => ?_, h⟩
    rw [e164p]
    refine br_no (by omega) (br_no (by omega) ?_)
    have hl := decD_len n
    refine loopR okf164p hg164p (ι := {p : Nat × List UInt8 // p.1 ≤ n ∧ decD p.1 ++ p.2 = decD n}) (fun p => st164p p.1.1 ⟨p.1.2.toArray⟩) (fun p => p.1.1) (fun ⟨(m, l), hm, he⟩ => ?_) ⟨(n, []), Nat.le_refl _, by simp⟩
    show evP E164p G164p _ (lp164p 6) (st164p m ⟨l.toArray⟩) (rk164p _ _ 6 _)
    simp only at hm he
    have hlen := congrArg List.length he
    rw [List.length_append] at hlen
    have hsz : (⟨l.toArray⟩ : ByteArray).size = l.length := by show l.toArray.size = _; simp
    rw [b164p]
    refine br_dec (fun h2 => ?_) (fun h2 => ?_)
    · have e1 : (48 + (m : Int).tmod 10) = 48 + ((m % 10 : Nat) : Int) := rfl
      rw [e1, dig1 (Nat.mod_lt _ (by omega)), hsz]
      refine br_yes (by show 1 + l.length ≤ _; omega) ?_
      have hq : (m : Int).tdiv 10 = ((m / 10 : Nat) : Int) := rfl
      rw [hq, wrap_id (by omega) (by omega), cat1]
      refine ⟨⟨(m / 10, UInt8.ofNat (48 + m % 10) :: l), by show m / 10 ≤ n; omega, ?_⟩, rfl, by show m / 10 < m; omega⟩
      show decD (m / 10) ++ (UInt8.ofNat (48 + m % 10) :: l) = decD n
      rw [← he]
      conv => rhs; rw [decD]
      rw [dif_neg (by omega), List.append_assoc]
      rfl
    · have hm9 : m < 10 := by omega
      rw [dig1 hm9, hsz]
      refine br_yes (by show 1 + l.length ≤ _; omega) ?_
      show _ = _
      rw [cat1, dec_nn, ← he, decD, dif_pos hm9]
      rfl
  · exact h.elim
theorem dec_size {n : Int} (h0 : 0 ≤ n) (h1 : n ≤ 9223372036854775807) : (dec n).size ≤ n.toNat / 2 + 1 := by
  obtain ⟨m, rfl⟩ : ∃ m : Nat, n = m := ⟨n.toNat, by omega⟩
  rw [dec_nn]
  have := decD_len m
  show (decD m).toArray.size ≤ _
  simpa using this
theorem inN_of {n : Int} (h0 : -9223372036854775808 ≤ n) (h1 : n ≤ 9223372036854775807) : inN n = true := decide_eq_true ⟨h0, h1⟩
end Go.Proofs.YtkjnijddbiconaaGreatDoor.Ev
