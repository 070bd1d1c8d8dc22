/- Sums, numbers as texts. -/
import Derived.Test.YtljilcingbohkaaDoorTt
import Derived.Test.YtljilcingbohkaaDoorEv25
import Derived.Test.YtljilcingbohkaaDoorEv26
import Derived.Test.YtljilcingbohkaaDoorShelf
import Derived.Lib.ItoaNum
namespace Go.Proofs.YtljilcingbohkaaDoor.Ev
open Go
set_option linter.unusedVariables false
set_option linter.unusedSimpArgs false
set_option maxRecDepth 100000
def sumL (t : ByteArray) : Nat → Int
  | 0 => 1 + (t.size : Int).tmod 997
  | i + 1 => (257 * sumL t i + byteAt t i + 1).tmod 65521
def sumN (t : ByteArray) : Int := sumL t t.size
def g44 : G1
  | [.val (.string t)], [], k => br (decide (t.size ≤ 4611686018427387904)) (k ⟨.val (.int .i64 (sumN t)), [], []⟩) False
  | _, _, _ => False
theorem byteAt_lt (t : ByteArray) (i : Int) : 0 ≤ byteAt t i ∧ byteAt t i ≤ 255 := by
  unfold byteAt
  split
  · rename_i h
    have := (t[i.toNat]'h).toNat_lt
    omega
  · omega
theorem sumL_lt (t : ByteArray) : ∀ (i : Nat), 0 ≤ sumL t i ∧ sumL t i ≤ 65520
  | 0 => by
    show 0 ≤ 1 + (t.size : Int).tmod 997 ∧ 1 + (t.size : Int).tmod 997 ≤ 65520
    rw [Int.tmod_eq_emod_of_nonneg (by omega)]
    omega
  | i + 1 => by
    obtain ⟨h1, h2⟩ := sumL_lt t i
    obtain ⟨h3, h4⟩ := byteAt_lt t i
    show 0 ≤ (257 * sumL t i + byteAt t i + 1).tmod 65521 ∧ (257 * sumL t i + byteAt t i + 1).tmod 65521 ≤ 65520
    rw [Int.tmod_eq_emod_of_nonneg (by omega)]
    omega
theorem sumN_lt (t : ByteArray) : 0 ≤ sumN t ∧ sumN t ≤ 65520 := sumL_lt t _
theorem sum_start (t : ByteArray) : IntKind.i64.wrap (1 + (t.size : Int).tmod 997) = sumL t 0 := by
  have := sumL_lt t 0
  exact wrap_id (n := sumL t 0) (by omega) (by omega)
theorem sum_step (t : ByteArray) (i : Nat) : (IntKind.i64.wrap (IntKind.i64.wrap (IntKind.i64.wrap (257 * sumL t i) + IntKind.i64.wrap (byteAt t i)) + 1)).tmod 65521 = sumL t (i + 1) := by
  obtain ⟨h1, h2⟩ := sumL_lt t i
  obtain ⟨h3, h4⟩ := byteAt_lt t i
  rw [wrap_id (n := 257 * sumL t i) (by omega) (by omega), wrap_id (n := byteAt t i) (by omega) (by omega), wrap_id (n := 257 * sumL t i + byteAt t i) (by omega) (by omega), wrap_id (n := 257 * sumL t i + byteAt t i + 1) (by omega) (by omega)]
  rfl
noncomputable def E44 : Env := E0.of Tryd.f44
noncomputable def G44 : Gk := gk []
noncomputable def lp44 (n : Nat) : Code := (loopOf n (codeOf Tryd.f44)).getD .skip
noncomputable def ct44 (L : Lp) (R : Option Res → Prop) (n : Nat) : Kt := contOf E44 G44 L n (codeOf Tryd.f44) (endK E44 Tryd.f44.results.toList R)
noncomputable def rk44 (L : Lp) (R : Option Res → Prop) (n : Nat) (N : St → Prop) : Kt := rk (jof E44 (lp44 n)) N (ct44 L R n)
noncomputable def LOOP44 (L : Lp) (R : Option Res → Prop) (n : Nat) (st : St) : Prop := L (lp44 n) st (ct44 L R n)
theorem hg44 : HG Tryd.prog G44 := hg_nil
theorem okf44 : Ok Tryd.prog E44 := ok0.of Tryd.f44
theorem e44 (L : Lp) (R : Option Res → Prop) (t : ByteArray) : (bodyP E0 G44 L Tryd.f44 [.val (.string t)] [] R) = (
    LOOP44 L R 3 { tm := [vS t, vU, vI 0, vI (IntKind.i64.wrap (1 + (↑t.size : Int).tmod 997)), vI 0, vJ, vJ, vJ, vJ, vJ, vJ, vJ, vJ, vJ, vJ, vJ, vJ, vJ, vJ, vJ, vJ, vJ, vJ, vJ, vU], ob := [], nx := 1000000, ps := [] }) := by kernel_rfl
def st44 (t : ByteArray) (n i : Int) : St :=  ⟨[vS t, vU, vI 0, .val (.int .i64 n), .val (.int .i64 i), vJ, vJ, vJ, vJ, vJ, vJ, vJ, vJ, vJ, vJ, vJ, vJ, vJ, vJ, vJ, vJ, vJ, vJ, vJ, vU], [], 1000000, []⟩
theorem b44 (L : Lp) (R : Option Res → Prop) (N : St → Prop) (t : ByteArray) (n i : Int) : (evP E44 G44 L (lp44 3) (st44 t n i) (rk44 L R 3 N)) = (
    br (decide (i < (↑t.size : Int))) (br (decide (0 ≤ i ∧ i < (↑t.size : Int))) (N { tm := [vS t, vU, vI 0, vI ((IntKind.i64.wrap (IntKind.i64.wrap (IntKind.i64.wrap (n * 257) + IntKind.i64.wrap (byteAt t i)) + 1)).tmod 65521), vI (IntKind.i64.wrap (i + 1)), vJ, vJ, vJ, vJ, vJ, vJ, vJ, vJ, vJ, vJ, vJ, vJ, vJ, vJ, vJ, vJ, vJ, vJ, vJ, vU], ob := [], nx := 1000000, ps := [] }) False) (R (some { av := vI n, obs := [], outs := [] }))) := by kernel_rfl
theorem h44 : G1Ok Tryd.prog 44 g44 := by
  intro args obs k h
  unfold g44 at h
  split at h
  · rename_i k t
    obtain ⟨hlen, h⟩ := brd h
    refine ⟨_, ctr_fn ok0 hg44 Tryd.func44 (by kernel_rfl) (by kernel_rfl) (by kernel_rfl) fun C => ?_, h⟩
    rw [e44]
    refine loopUp okf44 hg44 (fun i n => st44 t n i) t.size (fun i n => n = sumL t i) (fun N i n hi hn next => ?_) _ (sum_start t)
    show evP E44 G44 _ (lp44 3) (st44 t n i) (rk44 _ _ 3 _)
    rw [b44, hn, wrap_id (n := (i : Int) + 1) (by omega) (by omega), Int.mul_comm (sumL t i) 257, sum_step]
    refine br_dec (fun h1 => br_yes ⟨by omega, h1⟩ ?_) (fun h1 => ?_)
    · exact next (by omega) _ rfl
    · show _ = _
      have : i = t.size := by omega
      rw [this]
      rfl
  · exact h.elim
noncomputable def E46 : Env := E0.of Tryd.f46
noncomputable def G46 : Gk := gk []
noncomputable def lp46 (n : Nat) : Code := (loopOf n (codeOf Tryd.f46)).getD .skip
noncomputable def ct46 (L : Lp) (R : Option Res → Prop) (n : Nat) : Kt := contOf E46 G46 L n (codeOf Tryd.f46) (endK E46 Tryd.f46.results.toList R)
noncomputable def rk46 (L : Lp) (R : Option Res → Prop) (n : Nat) (N : St → Prop) : Kt := rk (jof E46 (lp46 n)) N (ct46 L R n)
noncomputable def LOOP46 (L : Lp) (R : Option Res → Prop) (n : Nat) (st : St) : Prop := L (lp46 n) st (ct46 L R n)
theorem hg46 : HG Tryd.prog G46 := hg_nil
theorem okf46 : Ok Tryd.prog E46 := ok0.of Tryd.f46
theorem e46 (L : Lp) (R : Option Res → Prop) (t : ByteArray) : (bodyP E0 G46 L Tryd.f46 [.val (.string t)] [] R) = (
    LOOP46 L R 3 { tm := [vS t, vU, vI 0, vI (IntKind.i64.wrap (1 + (↑t.size : Int).tmod 997)), vJ, vJ, vJ, vJ, vJ, vJ, vI (↑t.size : Int), vI 0, vJ, vJ, vJ, vJ, vJ, vJ, vJ, vJ, vJ, vJ, vJ, vJ, vU], ob := [], nx := 1000000, ps := [] }) := by kernel_rfl
def st46 (t : ByteArray) (n i : Int) : St :=  ⟨[vS t, vU, vI 0, .val (.int .i64 n), vJ, vJ, vJ, vJ, vJ, vJ, vI (↑t.size : Int), .val (.int .i64 i), vJ, vJ, vJ, vJ, vJ, vJ, vJ, vJ, vJ, vJ, vJ, vJ, vU], [], 1000000, []⟩
theorem b46 (L : Lp) (R : Option Res → Prop) (N : St → Prop) (t : ByteArray) (n i : Int) : (evP E46 G46 L (lp46 3) (st46 t n i) (rk46 L R 3 N)) = (
    br (decide (i < (↑t.size : Int))) (br (decide (0 ≤ i ∧ i < (↑t.size : Int))) (N { tm := [vS t, vU, vI 0, vI ((IntKind.i64.wrap (IntKind.i64.wrap (IntKind.i64.wrap (257 * n) + IntKind.i64.wrap (byteAt t i)) + 1)).tmod 65521), vJ, vJ, vJ, vJ, vJ, vJ, vI (↑t.size : Int), vI (IntKind.i64.wrap (i + 1)), vJ, vJ, vJ, vJ, vJ, vJ, vJ, vJ, vJ, vJ, vJ, vJ, vU], ob := [], nx := 1000000, ps := [] }) False) (R (some { av := vI n, obs := [], outs := [] }))) := by kernel_rfl
theorem h46 : G1Ok Tryd.prog 46 g44 := by
  intro args obs k h
  unfold g44 at h
  split at h
  · rename_i k t
    obtain ⟨hlen, h⟩ := brd h
    refine ⟨_, ctr_fn ok0 hg46 Tryd.func46 (by kernel_rfl) (by kernel_rfl) (by kernel_rfl) fun C => ?_, h⟩
    rw [e46]
    refine loopUp okf46 hg46 (fun i n => st46 t n i) t.size (fun i n => n = sumL t i) (fun N i n hi hn next => ?_) _ (sum_start t)
    show evP E46 G46 _ (lp46 3) (st46 t n i) (rk46 _ _ 3 _)
    rw [b46, hn, wrap_id (n := (i : Int) + 1) (by omega) (by omega), sum_step]
    refine br_dec (fun h1 => br_yes ⟨by omega, h1⟩ ?_) (fun h1 => ?_)
    · exact next (by omega) _ rfl
    · show _ = _
      have : i = t.size := by omega
      rw [this]
      rfl
  · exact h.elim
def decD (u : Nat) : List UInt8 := if h : u < 10 then [UInt8.ofNat (48 + u)] else decD (u / 10) ++ [UInt8.ofNat (48 + u % 10)]
  termination_by u
  decreasing_by omega
def dec (n : Int) : ByteArray := ⟨(match decide (n < 0) with | true => 45 :: decD n.natAbs | false => decD n.toNat).toArray⟩
def inN (n : Int) : Bool := decide (-9223372036854775808 ≤ n ∧ n ≤ 9223372036854775807)
def g45 : G1
  | [.val (.int .i64 n)], [], k => br (inN n) (k ⟨.val (.string (dec n)), [], []⟩) False
  | _, _, _ => False
theorem decD_lib (u : Nat) : decD u = Lib.decDigits u := by
  induction u using decD.induct with
  | case1 u h => rw [decD, Lib.decDigits, dif_pos h, dif_pos h]
  | case2 u h ih => rw [decD, Lib.decDigits, dif_neg h, dif_neg h, ih]
theorem dec_lib (n : Int) : dec n = ⟨(Lib.itoa n).toArray⟩ := by
  unfold dec Lib.itoa
  by_cases h : n < 0
  · rw [decide_eq_true h, if_pos h, decD_lib]
  · rw [decide_eq_false h, if_neg h, ← decD_lib]
theorem quiet_grow (w : World) (k : Nat) (os : Array Obj) : Quiet w (Sort.grow (w.drewN k) os) := by
  refine ⟨⟨rfl, rfl, rfl, ?_⟩, fun b x hb => ?_⟩
  · show w.heap.size ≤ (w.heap ++ os).size
    rw [Array.size_append]
    omega
  · show (w.heap ++ os)[b]? = some x
    have hlt : b < w.heap.size := (Array.getElem?_eq_some_iff.1 hb).1
    rw [Array.getElem?_append_left hlt, hb]
theorem quiet_drew (w : World) (k : Nat) : Quiet w (w.drewN k) := ⟨⟨rfl, rfl, rfl, Nat.le_refl _⟩, fun b x hb => hb⟩
theorem tabPow_lib : tabPow = Lib.pow10Tab := by decide
theorem h45 : G1Ok Tryd.prog 45 g45 := by
  intro args obs k h
  unfold g45 at h
  split at h
  · rename_i k n
    obtain ⟨hn, h⟩ := br_and h
    have hn' := of_decide_eq_true hn
    refine ⟨_, ctr_plain (us := [.int .i64 n]) (v := .string (dec n)) Tryd.func45 (by kernel_rfl) (by kernel_rfl) (fun w ht => ?_), h⟩
    refine (Tryd.strconv_Itoa n hn'.1 hn'.2 w (by have := ht.1; rw [tabPow_lib] at this; exact this)).mono fun e w' he => ?_
    obtain ⟨rfl, q, os, rfl⟩ := he
    exact ⟨by rw [dec_lib], quiet_grow w q os⟩
  · exact h.elim
def g43p : G1
  | [.val (.int .i64 n)], [], k => br (decide (0 ≤ n ∧ n ≤ 9223372036854775807)) (k ⟨.val (.string (dec n)), [], []⟩) False
  | _, _, _ => False
def gNo : G1 := fun _ _ _ => False
theorem hNo {f : Nat} : G1Ok Tryd.prog f gNo := fun _ _ _ h => h.elim
theorem decD_len (u : Nat) : (decD u).length ≤ u / 2 + 1 := by
  induction u using decD.induct with
  | case1 u h =>
    rw [decD, dif_pos h]
    simp
  | case2 u h ih =>
    rw [decD, dif_neg h, List.length_append, List.length_singleton]
    omega
theorem dig1 {m : Nat} (h : m < 10) : strOf [(IntKind.u8.wrap (IntKind.i64.wrap (48 + (m : Int))), ())] = ⟨[UInt8.ofNat (48 + m)].toArray⟩ := by
  rw [wrap_id (n := 48 + (m : Int)) (by omega) (by omega)]
  have e : IntKind.u8.wrap (48 + (m : Int)) = 48 + (m : Int) := by rw [IntKind.wrap_u8]; omega
  rw [e]
  unfold strOf
  simp only [List.map_cons, List.map_nil]
  congr 4
theorem cat1 (b : UInt8) (l : List UInt8) : (⟨[b].toArray⟩ : ByteArray) ++ ⟨l.toArray⟩ = ⟨(b :: l).toArray⟩ := by
  apply ByteArray.ext
  rw [ByteArray.data_append]
  simp
theorem dec_nn (m : Nat) : dec m = ⟨(decD m).toArray⟩ := by
  unfold dec
  rw [decide_eq_false (by omega)]
  rfl
noncomputable def E43p : Env := E0.of Tryd.f43
noncomputable def G43p : Gk := gk [(43, gNo)]
noncomputable def lp43p (n : Nat) : Code := (loopOf n (codeOf Tryd.f43)).getD .skip
noncomputable def ct43p (L : Lp) (R : Option Res → Prop) (n : Nat) : Kt := contOf E43p G43p L n (codeOf Tryd.f43) (endK E43p Tryd.f43.results.toList R)
noncomputable def rk43p (L : Lp) (R : Option Res → Prop) (n : Nat) (N : St → Prop) : Kt := rk (jof E43p (lp43p n)) N (ct43p L R n)
noncomputable def LOOP43p (L : Lp) (R : Option Res → Prop) (n : Nat) (st : St) : Prop := L (lp43p n) st (ct43p L R n)
theorem hg43p : HG Tryd.prog G43p := (hg_cons hNo hg_nil)
theorem okf43p : Ok Tryd.prog E43p := ok0.of Tryd.f43
theorem e43p (L : Lp) (R : Option Res → Prop) (n : Int) : (bodyP E0 G43p L Tryd.f43 [.val (.int .i64 n)] [] R) = (
    br (decide (n < -9223372036854775807)) (R (some { av := vS { data := #[45, 57, 50, 50, 51, 51, 55, 50, 48, 51, 54, 56, 53, 52, 55, 55, 53, 56, 48, 56] }, obs := [], outs := [] })) (br (decide (n < 0)) False (LOOP43p L R 6 { tm := [vI n, vU, vS { data := #[] }, vS { data := #[] }, vJ, vJ, vJ, vJ, vJ, vJ, vJ, vJ, vJ, vJ, vJ, vJ, vJ, vJ, vJ, vJ, vJ, vJ, vJ, vJ, vU, vU, vU, vU, vU, vU, vU], ob := [], nx := 1000000, ps := [] }))) := by kernel_rfl
def st43p (n : Int) (o : ByteArray) : St :=  ⟨[.val (.int .i64 n), vU, vS { data := #[] }, .val (.string o), vJ, vJ, vJ, vJ, vJ, vJ, vJ, vJ, vJ, vJ, vJ, vJ, vJ, vJ, vJ, vJ, vJ, vJ, vJ, vJ, vU, vU, vU, vU, vU, vU, vU], [], 1000000, []⟩
theorem b43p (L : Lp) (R : Option Res → Prop) (N : St → Prop) (n : Int) (o : ByteArray) : (evP E43p G43p L (lp43p 6) (st43p n o) (rk43p L R 6 N)) = (
    br (decide (n > 9)) (br (decide ((strOf [(IntKind.u8.wrap (IntKind.i64.wrap (48 + n.tmod 10)), ())]).size + o.size ≤ 9223372036854775807)) (N { tm := [vI (IntKind.i64.wrap (n.tdiv 10)), vU, vS { data := #[] }, vS (strOf [(IntKind.u8.wrap (IntKind.i64.wrap (48 + n.tmod 10)), ())] ++ o), vJ, vJ, vJ, vJ, vJ, vJ, vJ, vJ, vJ, vJ, vJ, vJ, vJ, vJ, vJ, vJ, vJ, vJ, vJ, vJ, vU, vU, vU, vU, vU, vU, vU], ob := [], nx := 1000000, ps := [] }) False) (br (decide ((strOf [(IntKind.u8.wrap (IntKind.i64.wrap (48 + n)), ())]).size + o.size ≤ 9223372036854775807)) (R (some { av := vS (strOf [(IntKind.u8.wrap (IntKind.i64.wrap (48 + n)), ())] ++ o), obs := [], outs := [] })) False)) := by kernel_rfl
theorem h43p : G1Ok Tryd.prog 43 g43p := by
  intro args obs k h
  unfold g43p at h
  split at h
  · rename_i k n
    obtain ⟨hn, h⟩ := brd h
    obtain ⟨n, rfl⟩ : ∃ m : Nat, n = m := ⟨n.toNat, by omega⟩
    refine ⟨_, ctr_fn ok0 hg43p Tryd.func43 (by kernel_rfl) (by kernel_rfl) (by kernel_rfl) fun C => ?_, h⟩
    rw [e43p]
    refine br_no (by omega) (br_no (by omega) ?_)
    have hl := decD_len n
    refine loopR okf43p hg43p (ι := {p : Nat × List UInt8 // p.1 ≤ n ∧ decD p.1 ++ p.2 = decD n}) (fun p => st43p p.1.1 ⟨p.1.2.toArray⟩) (fun p => p.1.1) (fun ⟨(m, l), hm, he⟩ => ?_) ⟨(n, []), Nat.le_refl _, by simp⟩
    show evP E43p G43p _ (lp43p 6) (st43p m ⟨l.toArray⟩) (rk43p _ _ 6 _)
    simp only at hm he
    have hlen := congrArg List.length he
    rw [List.length_append] at hlen
    have hsz : (⟨l.toArray⟩ : ByteArray).size = l.length := by show l.toArray.size = _; simp
    rw [b43p]
    refine br_dec (fun h2 => ?_) (fun h2 => ?_)
    · have e1 : (48 + (m : Int).tmod 10) = 48 + ((m % 10 : Nat) : Int) := rfl
      rw [e1, dig1 (Nat.mod_lt _ (by omega)), hsz]
      refine br_yes (by show 1 + l.length ≤ _; omega) ?_
      have hq : (m : Int).tdiv 10 = ((m / 10 : Nat) : Int) := rfl
      rw [hq, wrap_id (by omega) (by omega), cat1]
      refine ⟨⟨(m / 10, UInt8.ofNat (48 + m % 10) :: l), by show m / 10 ≤ n; omega, ?_⟩, rfl, by show m / 10 < m; omega⟩
      show decD (m / 10) ++ (UInt8.ofNat (48 + m % 10) :: l) = decD n
      rw [← he]
      conv => rhs; rw [decD]
      rw [dif_neg (by omega), List.append_assoc]
      rfl
    · have hm9 : m < 10 := by omega
      rw [dig1 hm9, hsz]
      refine br_yes (by show 1 + l.length ≤ _; omega) ?_
      show _ = _
      rw [cat1, dec_nn, ← he, decD, dif_pos hm9]
      rfl
  · exact h.elim
def sealT (t : ByteArray) : ByteArray := match decide ((t.size : Int) > 400) with
  | true => ByteArray.empty
  | false => dec (sumN t) ++ ⟨#[58]⟩ ++ t
def g13 : G1
  | [.val (.string t)], [], k => br (decide (t.size ≤ 4611686018427387904)) (k ⟨.val (.string (sealT t)), [], []⟩) False
  | _, _, _ => False
theorem dec_size {n : Int} (h0 : 0 ≤ n) (h1 : n ≤ 9223372036854775807) : (dec n).size ≤ n.toNat / 2 + 1 := by
  obtain ⟨m, rfl⟩ : ∃ m : Nat, n = m := ⟨n.toNat, by omega⟩
  rw [dec_nn]
  have := decD_len m
  show (decD m).toArray.size ≤ _
  simpa using this
noncomputable def E13 : Env := E0.of Tryd.f13
noncomputable def G13 : Gk := gk [(44, g44), (43, g43p)]
noncomputable def lp13 (n : Nat) : Code := (loopOf n (codeOf Tryd.f13)).getD .skip
noncomputable def ct13 (L : Lp) (R : Option Res → Prop) (n : Nat) : Kt := contOf E13 G13 L n (codeOf Tryd.f13) (endK E13 Tryd.f13.results.toList R)
noncomputable def rk13 (L : Lp) (R : Option Res → Prop) (n : Nat) (N : St → Prop) : Kt := rk (jof E13 (lp13 n)) N (ct13 L R n)
noncomputable def LOOP13 (L : Lp) (R : Option Res → Prop) (n : Nat) (st : St) : Prop := L (lp13 n) st (ct13 L R n)
theorem hg13 : HG Tryd.prog G13 := (hg_cons h44 (hg_cons h43p hg_nil))
theorem okf13 : Ok Tryd.prog E13 := ok0.of Tryd.f13
theorem e13 (L : Lp) (R : Option Res → Prop) (t : ByteArray) : (bodyP E0 G13 L Tryd.f13 [.val (.string t)] [] R) = (
    br (decide ((↑t.size : Int) > 400)) (R (some { av := vS { data := #[] }, obs := [], outs := [] })) (br (decide (t.size ≤ 4611686018427387904)) (br (decide (0 ≤ sumN t ∧ sumN t ≤ 9223372036854775807)) (br (decide ((dec (sumN t)).size + 1 ≤ 9223372036854775807)) (br (decide ((dec (sumN t) ++ { data := #[58] }).size + t.size ≤ 9223372036854775807)) (R (some { av := vS (dec (sumN t) ++ { data := #[58] } ++ t), obs := [], outs := [] })) False) False) False) False)) := by kernel_rfl
theorem h13 : G1Ok Tryd.prog 13 g13 := by
  intro args obs k h
  unfold g13 at h
  split at h
  · rename_i k t
    obtain ⟨hs, h⟩ := br_and h
    refine ⟨_, ctr_fn ok0 hg13 Tryd.func13 (by kernel_rfl) (by kernel_rfl) (by kernel_rfl) fun C => ?_, h⟩
    rw [e13]
    refine br_intro (fun h1 => ?_) (fun h1 => br_t hs (br_yes ?_ (br_yes ?_ (br_yes ?_ ?_))))
    · show _ = _
      unfold sealT
      rw [h1]
      rfl
    · have := sumN_lt t
      omega
    · have := sumN_lt t
      have := dec_size (n := sumN t) (by omega) (by omega)
      omega
    · have := sumN_lt t
      have := dec_size (n := sumN t) (by omega) (by omega)
      have h1 := of_decide_eq_false h1
      rw [ByteArray.size_append]
      show (dec (sumN t)).size + 1 + t.size ≤ _
      omega
    · show _ = _
      unfold sealT
      rw [h1]
  · exact h.elim
noncomputable def E14 : Env := E0.of Tryd.f14
noncomputable def G14 : Gk := gk [(46, g44), (45, g45)]
noncomputable def lp14 (n : Nat) : Code := (loopOf n (codeOf Tryd.f14)).getD .skip
noncomputable def ct14 (L : Lp) (R : Option Res → Prop) (n : Nat) : Kt := contOf E14 G14 L n (codeOf Tryd.f14) (endK E14 Tryd.f14.results.toList R)
noncomputable def rk14 (L : Lp) (R : Option Res → Prop) (n : Nat) (N : St → Prop) : Kt := rk (jof E14 (lp14 n)) N (ct14 L R n)
noncomputable def LOOP14 (L : Lp) (R : Option Res → Prop) (n : Nat) (st : St) : Prop := L (lp14 n) st (ct14 L R n)
theorem hg14 : HG Tryd.prog G14 := (hg_cons h46 (hg_cons h45 hg_nil))
theorem okf14 : Ok Tryd.prog E14 := ok0.of Tryd.f14
theorem e14 (L : Lp) (R : Option Res → Prop) (t : ByteArray) : (bodyP E0 G14 L Tryd.f14 [.val (.string t)] [] R) = (
    br (decide ((↑t.size : Int) > 400)) (R (some { av := vS { data := #[] }, obs := [], outs := [] })) (br (decide (t.size ≤ 4611686018427387904)) (br (inN (sumN t)) (br (decide ((dec (sumN t)).size + 1 ≤ 9223372036854775807)) (br (decide ((dec (sumN t) ++ { data := #[58] }).size + t.size ≤ 9223372036854775807)) (R (some { av := vS (dec (sumN t) ++ { data := #[58] } ++ t), obs := [], outs := [] })) False) False) False) False)) := by kernel_rfl
theorem inN_of {n : Int} (h0 : -9223372036854775808 ≤ n) (h1 : n ≤ 9223372036854775807) : inN n = true := decide_eq_true ⟨h0, h1⟩
theorem h14 : G1Ok Tryd.prog 14 g13 := by
  intro args obs k h
  unfold g13 at h
  split at h
  · rename_i k t
    obtain ⟨hs, h⟩ := br_and h
    refine ⟨_, ctr_fn ok0 hg14 Tryd.func14 (by kernel_rfl) (by kernel_rfl) (by kernel_rfl) fun C => ?_, h⟩
    rw [e14]
    refine br_intro (fun h1 => ?_) (fun h1 => br_t hs (br_t ?_ (br_yes ?_ (br_yes ?_ ?_))))
    · show _ = _
      unfold sealT
      rw [h1]
      rfl
    · have := sumN_lt t
      exact inN_of (by omega) (by omega)
    · have := sumN_lt t
      have := dec_size (n := sumN t) (by omega) (by omega)
      omega
    · have := sumN_lt t
      have := dec_size (n := sumN t) (by omega) (by omega)
      have h1 := of_decide_eq_false h1
      rw [ByteArray.size_append]
      show (dec (sumN t)).size + 1 + t.size ≤ _
      omega
    · show _ = _
      unfold sealT
      rw [h1]
  · exact h.elim
noncomputable def E3 : Env := E0.of Tryd.f3
noncomputable def G3 : Gk := gk [(13, g13), (14, g13)]
noncomputable def lp3 (n : Nat) : Code := (loopOf n (codeOf Tryd.f3)).getD .skip
noncomputable def ct3 (L : Lp) (R : Option Res → Prop) (n : Nat) : Kt := contOf E3 G3 L n (codeOf Tryd.f3) (endK E3 Tryd.f3.results.toList R)
noncomputable def rk3 (L : Lp) (R : Option Res → Prop) (n : Nat) (N : St → Prop) : Kt := rk (jof E3 (lp3 n)) N (ct3 L R n)
noncomputable def LOOP3 (L : Lp) (R : Option Res → Prop) (n : Nat) (st : St) : Prop := L (lp3 n) st (ct3 L R n)
theorem hg3 : HG Tryd.prog G3 := (hg_cons h13 (hg_cons h14 hg_nil))
theorem okf3 : Ok Tryd.prog E3 := ok0.of Tryd.f3
theorem e3 (L : Lp) (R : Option Res → Prop) (t : ByteArray) : (bodyP E0 G3 L Tryd.f3 [.val (.string t)] [] R) = (
    br (decide ((↑t.size : Int) > 1048576)) (R (some { av := vB true, obs := [], outs := [] })) (br (decide (t.size ≤ 4611686018427387904)) (br (decide (t.size ≤ 4611686018427387904)) (br (!strEq (sealT t) (sealT t)) (R (some { av := vB false, obs := [], outs := [] })) (R (some { av := vB true, obs := [], outs := [] }))) False) False)) := by kernel_rfl
theorem strEq_self (t : ByteArray) : strEq t t = true := by simp [strEq]
theorem c3 (t : ByteArray) : Ctr Tryd.prog 3 [.val (.string t)] [] ⟨.val (.bool true), [], []⟩ := by
  refine ctr_fn ok0 hg3 Tryd.func3 (by kernel_rfl) (by kernel_rfl) (by kernel_rfl) fun C => ?_
  rw [e3]
  refine br_dec (fun _ => rfl) (fun h1 => ?_)
  have hd : decide (t.size ≤ 4611686018427387904) = true := decide_eq_true (by omega)
  refine br_t hd (br_t hd (br_not (fun h => ?_) (fun _ => rfl)))
  rw [strEq_self] at h
  cases h
end Go.Proofs.YtljilcingbohkaaDoor.Ev
