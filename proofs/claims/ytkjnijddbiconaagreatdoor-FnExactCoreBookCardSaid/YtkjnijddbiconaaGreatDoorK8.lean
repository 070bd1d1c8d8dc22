/- The law of CoreBook: marks in books. -/
import Derived.Test.YtkjnijddbiconaaGreatDoorK7
namespace Go.Proofs.YtkjnijddbiconaaGreatDoor.Ev
open Go
set_option linter.unusedVariables false
set_option linter.unusedSimpArgs false
set_option maxRecDepth 100000
set_option maxHeartbeats 1000000
def mkB (k : Int) : Elem kb := (mt k, k + 1, mt (k + 2), mt (k + 3), mt (k + 4), mt (k + 5), mt (k + 6), mt (k + 7), mt (k + 8), mt (k + 9), mt (k + 10), ())
def g91 : G1
  | [.ows 0, .val (.int .i64 n)], [.row [.str, .int .i64, .str, .str, .str, .str, .str, .str, .str, .str, .str] xs], k => br (inM n xs.length) (k ⟨.val (.int .i64 (n + ((11 * xs.length : Nat) : Int))), [.row kb (mkS mkB 11 n xs.length)], [some 0]⟩) False
  | _, _, _ => False
def g33 : G1
  | [.agg [.ows 0], .val (.int .i64 n)], [.row [.str, .int .i64, .str, .str, .str, .str, .str, .str, .str, .str, .str] xs], k => br (inM n xs.length) (k ⟨.val (.int .i64 (n + ((11 * xs.length : Nat) : Int))), [.row kb (mkS mkB 11 n xs.length)], [some 0]⟩) False
  | _, _, _ => False
def g92 : G1
  | [.rsl [.str, .int .i64, .str, .str, .str, .str, .str, .str, .str, .str, .str] xs, .val (.int .i64 n)], [], k => br (inM n xs.length && hdB kb mkB 11 n xs) (k ⟨.val (.int .i64 (n + ((11 * xs.length : Nat) : Int))), [], []⟩) False
  | _, _, _ => False
def g34 : G1
  | [.agg [.rsl [.str, .int .i64, .str, .str, .str, .str, .str, .str, .str, .str, .str] xs], .val (.int .i64 n)], [], k => br (inM n xs.length && hdB kb mkB 11 n xs) (k ⟨.val (.int .i64 (n + ((11 * xs.length : Nat) : Int))), [], []⟩) False
  | _, _, _ => False
def ptM (e : Elem kb) (m : Int) (c : Nat) : Elem kb := ((match Nat.blt 0 c with | true => mt m | false => e.1), (match Nat.blt 1 c with | true => m + 1 | false => e.2.1), (match Nat.blt 2 c with | true => mt (m + 2) | false => e.2.2.1), (match Nat.blt 3 c with | true => mt (m + 3) | false => e.2.2.2.1), (match Nat.blt 4 c with | true => mt (m + 4) | false => e.2.2.2.2.1), (match Nat.blt 5 c with | true => mt (m + 5) | false => e.2.2.2.2.2.1), (match Nat.blt 6 c with | true => mt (m + 6) | false => e.2.2.2.2.2.2.1), (match Nat.blt 7 c with | true => mt (m + 7) | false => e.2.2.2.2.2.2.2.1), (match Nat.blt 8 c with | true => mt (m + 8) | false => e.2.2.2.2.2.2.2.2.1), (match Nat.blt 9 c with | true => mt (m + 9) | false => e.2.2.2.2.2.2.2.2.2.1), (match Nat.blt 10 c with | true => mt (m + 10) | false => e.2.2.2.2.2.2.2.2.2.2.1), ())
theorem ptM_0 (e : Elem kb) (m : Int) : ptM e m 0 = e := rfl
theorem ptM_11 (e : Elem kb) (m : Int) : ptM e m 11 = mkB m := rfl
theorem mkB_eq {e : Elem kb} {m : Int} (h : elemEq kb e (mkB m) = true) : (strEq e.1 (mt m)) = true ∧ (e.2.1 == m + 1) = true ∧ (strEq e.2.2.1 (mt (m + 2))) = true ∧ (strEq e.2.2.2.1 (mt (m + 3))) = true ∧ (strEq e.2.2.2.2.1 (mt (m + 4))) = true ∧ (strEq e.2.2.2.2.2.1 (mt (m + 5))) = true ∧ (strEq e.2.2.2.2.2.2.1 (mt (m + 6))) = true ∧ (strEq e.2.2.2.2.2.2.2.1 (mt (m + 7))) = true ∧ (strEq e.2.2.2.2.2.2.2.2.1 (mt (m + 8))) = true ∧ (strEq e.2.2.2.2.2.2.2.2.2.1 (mt (m + 9))) = true ∧ (strEq e.2.2.2.2.2.2.2.2.2.2.1 (mt (m + 10))) = true := by
  unfold mkB at h
  simpa only [elemEq, ckEq, Bool.and_eq_true, Bool.and_true] using h
def stm (i k q : Nat) : Nat := if q < i then 11 else if q = i then k else 0
def midM (xs : List (Elem kb)) (n : Int) (i c : Nat) : List (Elem kb) := (List.range xs.length).map fun q => ptM (xs.getD q (edflt kb)) (n + ((11 * q : Nat) : Int)) (stm i c q)
theorem midM_len (xs : List (Elem kb)) (n : Int) (i k : Nat) : (midM xs n i k).length = xs.length := by simp [midM]
theorem midM_at (xs : List (Elem kb)) (n : Int) (i k : Nat) {q : Nat} (hq : q < xs.length) : (midM xs n i k)[q]? = some (ptM (xs.getD q (edflt kb)) (n + ((11 * q : Nat) : Int)) (stm i k q)) := by
  unfold midM
  rw [List.getElem?_map, List.getElem?_range hq]
  rfl
theorem midM_0 (xs : List (Elem kb)) (n : Int) : midM xs n 0 0 = xs := by
  apply List.ext_getElem?
  intro q
  by_cases hq : q < xs.length
  · rw [midM_at xs n 0 0 hq, List.getElem?_eq_getElem hq]
    have e1 : stm 0 0 q = 0 := by unfold stm; rw [if_neg (by omega)]; split <;> rfl
    rw [e1, ptM_0, List.getD_eq_getElem?_getD, List.getElem?_eq_getElem hq]
    rfl
  · rw [List.getElem?_eq_none (by rw [midM_len]; omega), List.getElem?_eq_none (by omega)]
theorem midM_n (xs : List (Elem kb)) (n : Int) {i : Nat} (hi : xs.length ≤ i) : midM xs n i 0 = mkS mkB 11 n xs.length := by
  unfold midM mkS
  apply List.map_congr_left
  intro q hq
  have hq := List.mem_range.1 hq
  have e1 : stm i 0 q = 11 := by unfold stm; rw [if_pos (by omega)]
  rw [e1, ptM_11]
theorem midM_s (xs : List (Elem kb)) (n : Int) (i : Nat) : midM xs n i 11 = midM xs n (i + 1) 0 := by
  unfold midM
  apply List.map_congr_left
  intro q hq
  have : stm i 11 q = stm (i + 1) 0 q := by
    unfold stm
    by_cases h1 : q < i
    · rw [if_pos h1, if_pos (by omega)]
    · rw [if_neg h1]
      by_cases h2 : q = i
      · rw [if_pos h2, if_pos (by omega)]
      · rw [if_neg h2, if_neg (by omega)]
        split <;> rfl
  rw [this]
theorem midM_u (xs : List (Elem kb)) (n : Int) {i j c : Nat} {vs : List Value} (hi : i < xs.length) (h : putV kb c vs (ptM (xs.getD i (edflt kb)) (n + ((11 * i : Nat) : Int)) j) = ptM (xs.getD i (edflt kb)) (n + ((11 * i : Nat) : Int)) (j + 1)) :
    updR kb (midM xs n i j) i c vs = midM xs n i (j + 1) := by
  unfold updR
  apply List.ext_getElem?
  intro q
  rw [List.getElem?_set]
  by_cases hq : q < xs.length
  · rw [midM_at xs n i (j + 1) hq, midM_at xs n i j hq]
    by_cases h2 : i = q
    · subst h2
      rw [if_pos rfl, if_pos (by rw [midM_len]; exact hi), List.getD_eq_getElem?_getD, midM_at xs n i j hi]
      have e1 : ∀ k, stm i k i = k := by intro k; unfold stm; rw [if_neg (by omega), if_pos rfl]
      rw [e1, e1]
      show some (putV kb c vs (ptM (xs.getD i (edflt kb)) (n + ((11 * i : Nat) : Int)) j)) = _
      rw [h]
    · rw [if_neg h2]
      have : stm i j q = stm i (j + 1) q := by
        unfold stm
        by_cases h1 : q < i
        · rw [if_pos h1, if_pos h1]
        · rw [if_neg h1, if_neg h1, if_neg (by omega), if_neg (by omega)]
      rw [this]
  · rw [if_neg (by omega), List.getElem?_eq_none (by rw [midM_len]; omega), List.getElem?_eq_none (by rw [midM_len]; omega)]
noncomputable def E91 : Env := Eg.of Tryz.f91
noncomputable def G91 : Gk := gk [(142, g142)]
noncomputable def lp91 (n : Nat) : Code := (loopOf n (codeOf Tryz.f91)).getD .skip
noncomputable def ct91 (L : Lp) (R : Option Res → Prop) (n : Nat) : Kt := contOf E91 G91 L n (codeOf Tryz.f91) (endK E91 Tryz.f91.results.toList R)
noncomputable def rk91 (L : Lp) (R : Option Res → Prop) (n : Nat) (N : St → Prop) : Kt := rk (jof E91 (lp91 n)) N (ct91 L R n)
noncomputable def rkn91 (L : Lp) (R : Option Res → Prop) (n : Nat) (N : St → Prop) (m : Nat) (N2 : St → Prop) : Kt := rk (jof E91 (lp91 m)) N2 (contOf E91 G91 L m (lp91 n) (rk91 L R n N))
noncomputable def LOOPN91 (L : Lp) (R : Option Res → Prop) (n : Nat) (N : St → Prop) (m : Nat) (st : St) : Prop := L (lp91 m) st (contOf E91 G91 L m (lp91 n) (rk91 L R n N))
noncomputable def LOOP91 (L : Lp) (R : Option Res → Prop) (n : Nat) (st : St) : Prop := L (lp91 n) st (ct91 L R n)
theorem hg91 : HG Tryz.prog G91 := (hg_cons h142 hg_nil)
theorem okf91 : Ok Tryz.prog E91 := okg.of Tryz.f91
theorem e91 (L : Lp) (R : Option Res → Prop) (xs : List (Elem kb)) (n : Int) : (bodyP Eg G91 L Tryz.f91 [.ows 0, .val (.int .i64 n)] [.row kb xs] R) = (
    LOOP91 L R 2 { tm := [AV.ows 0, vI n, vJ, vJ, vJ, vI 0, vJ, vJ, vJ, vJ, vJ, vJ, vJ, vJ, vJ, vJ, vJ, vJ, vJ, vJ, vJ, vJ, vJ, vJ, vJ, vJ, vJ, vJ, vJ, vJ, vJ, vJ, vJ, vJ, vJ, vJ, vJ, vJ, vJ, vJ, vJ, vJ, vJ, vJ, vJ, vJ, vJ, vJ, vJ, vJ, vJ], ob := [(0, AO.row kb xs)], nx := 1000000, ps := [some 0] }) := by kernel_rfl
def st91 (xs : List (Elem kb)) (n i : Int) : St :=  ⟨[AV.ows 0, .val (.int .i64 n), vJ, vJ, vJ, .val (.int .i64 i), vJ, vJ, vJ, vJ, vJ, vJ, vJ, vJ, vJ, vJ, vJ, vJ, vJ, vJ, vJ, vJ, vJ, vJ, vJ, vJ, vJ, vJ, vJ, vJ, vJ, vJ, vJ, vJ, vJ, vJ, vJ, vJ, vJ, vJ, vJ, vJ, vJ, vJ, vJ, vJ, vJ, vJ, vJ, vJ, vJ], [(0, .row kb xs)], 1000000, [some 0]⟩
theorem b91 (L : Lp) (R : Option Res → Prop) (N : St → Prop) (xs : List (Elem kb)) (n i : Int) : (evP E91 G91 L (lp91 2) (st91 xs n i) (rk91 L R 2 N)) = (
    br (decide (i < (↑xs.length : Int))) (br (inK n) (br (decide (0 ≤ i ∧ i < (↑xs.length : Int))) (br (decide (0 ≤ i ∧ i < (↑(updR kb xs i.toNat 0 [Value.string (mt n)]).length : Int))) (br (inK (IntKind.i64.wrap (IntKind.i64.wrap (n + 1) + 1))) (br (decide (0 ≤ i ∧ i < (↑(updR kb (updR kb xs i.toNat 0 [Value.string (mt n)]) i.toNat 1 [Value.int IntKind.i64 (IntKind.i64.wrap (n + 1))]).length : Int))) (LOOPN91 L R 2 N 11 { tm := [AV.ows 0, vI (IntKind.i64.wrap (IntKind.i64.wrap (IntKind.i64.wrap (n + 1) + 1) + 1)), vJ, vJ, vJ, vI i, vI 0, vJ, vJ, vJ, vJ, vJ, vJ, vJ, vJ, vJ, vJ, vJ, vJ, vJ, vJ, vJ, vJ, vJ, vJ, vJ, vJ, vJ, vJ, vJ, vJ, vJ, vJ, vJ, vJ, vJ, vJ, vJ, vJ, vJ, vJ, vJ, vJ, vJ, vJ, vJ, vJ, vJ, vJ, vJ, vJ], ob := [(0, AO.row kb (updR kb (updR kb (updR kb xs i.toNat 0 [Value.string (mt n)]) i.toNat 1 [Value.int IntKind.i64 (IntKind.i64.wrap (n + 1))]) i.toNat 2 [Value.string (mt (IntKind.i64.wrap (IntKind.i64.wrap (n + 1) + 1)))]))], nx := 1000000, ps := [some 0] }) False) False) False) False) False) (R (some { av := vI n, obs := [AO.row kb xs], outs := [some 0] }))) := by kernel_rfl
def si91 (ys : List (Elem kb)) (n i j : Int) : St :=  ⟨[AV.ows 0, .val (.int .i64 n), vJ, vJ, vJ, .val (.int .i64 i), .val (.int .i64 j), vJ, vJ, vJ, vJ, vJ, vJ, vJ, vJ, vJ, vJ, vJ, vJ, vJ, vJ, vJ, vJ, vJ, vJ, vJ, vJ, vJ, vJ, vJ, vJ, vJ, vJ, vJ, vJ, vJ, vJ, vJ, vJ, vJ, vJ, vJ, vJ, vJ, vJ, vJ, vJ, vJ, vJ, vJ, vJ], [(0, .row kb ys)], 1000000, [some 0]⟩
theorem bi91_0 (L : Lp) (R : Option Res → Prop) (N N2 : St → Prop) (ys : List (Elem kb)) (n i : Int) : (evP E91 G91 L (lp91 11) (si91 ys n i 0) (rkn91 L R 2 N 11 N2)) = (
    br (inK n) (br (decide (0 ≤ i ∧ i < (↑ys.length : Int))) (N2 { tm := [AV.ows 0, vI (IntKind.i64.wrap (n + 1)), vJ, vJ, vJ, vI i, vI 1, vJ, vJ, vJ, vJ, vJ, vJ, vJ, vJ, vJ, vJ, vJ, vJ, vJ, vJ, vJ, vJ, vJ, vJ, vJ, vJ, vJ, vJ, vJ, vJ, vJ, vJ, vJ, vJ, vJ, vJ, vJ, vJ, vJ, vJ, vJ, vJ, vJ, vJ, vJ, vJ, vJ, vJ, vJ, vJ], ob := [(0, AO.row kb (updR kb ys i.toNat 3 [Value.string (mt n)]))], nx := 1000000, ps := [some 0] }) False) False) := by kernel_rfl
theorem bi91_1 (L : Lp) (R : Option Res → Prop) (N N2 : St → Prop) (ys : List (Elem kb)) (n i : Int) : (evP E91 G91 L (lp91 11) (si91 ys n i 1) (rkn91 L R 2 N 11 N2)) = (
    br (inK n) (br (decide (0 ≤ i ∧ i < (↑ys.length : Int))) (N2 { tm := [AV.ows 0, vI (IntKind.i64.wrap (n + 1)), vJ, vJ, vJ, vI i, vI 2, vJ, vJ, vJ, vJ, vJ, vJ, vJ, vJ, vJ, vJ, vJ, vJ, vJ, vJ, vJ, vJ, vJ, vJ, vJ, vJ, vJ, vJ, vJ, vJ, vJ, vJ, vJ, vJ, vJ, vJ, vJ, vJ, vJ, vJ, vJ, vJ, vJ, vJ, vJ, vJ, vJ, vJ, vJ, vJ], ob := [(0, AO.row kb (updR kb ys i.toNat 4 [Value.string (mt n)]))], nx := 1000000, ps := [some 0] }) False) False) := by kernel_rfl
theorem bi91_2 (L : Lp) (R : Option Res → Prop) (N N2 : St → Prop) (ys : List (Elem kb)) (n i : Int) : (evP E91 G91 L (lp91 11) (si91 ys n i 2) (rkn91 L R 2 N 11 N2)) = (
    br (inK n) (br (decide (0 ≤ i ∧ i < (↑ys.length : Int))) (N2 { tm := [AV.ows 0, vI (IntKind.i64.wrap (n + 1)), vJ, vJ, vJ, vI i, vI 3, vJ, vJ, vJ, vJ, vJ, vJ, vJ, vJ, vJ, vJ, vJ, vJ, vJ, vJ, vJ, vJ, vJ, vJ, vJ, vJ, vJ, vJ, vJ, vJ, vJ, vJ, vJ, vJ, vJ, vJ, vJ, vJ, vJ, vJ, vJ, vJ, vJ, vJ, vJ, vJ, vJ, vJ, vJ, vJ], ob := [(0, AO.row kb (updR kb ys i.toNat 5 [Value.string (mt n)]))], nx := 1000000, ps := [some 0] }) False) False) := by kernel_rfl
theorem bi91_3 (L : Lp) (R : Option Res → Prop) (N N2 : St → Prop) (ys : List (Elem kb)) (n i : Int) : (evP E91 G91 L (lp91 11) (si91 ys n i 3) (rkn91 L R 2 N 11 N2)) = (
    br (inK n) (br (decide (0 ≤ i ∧ i < (↑ys.length : Int))) (N2 { tm := [AV.ows 0, vI (IntKind.i64.wrap (n + 1)), vJ, vJ, vJ, vI i, vI 4, vJ, vJ, vJ, vJ, vJ, vJ, vJ, vJ, vJ, vJ, vJ, vJ, vJ, vJ, vJ, vJ, vJ, vJ, vJ, vJ, vJ, vJ, vJ, vJ, vJ, vJ, vJ, vJ, vJ, vJ, vJ, vJ, vJ, vJ, vJ, vJ, vJ, vJ, vJ, vJ, vJ, vJ, vJ, vJ], ob := [(0, AO.row kb (updR kb ys i.toNat 6 [Value.string (mt n)]))], nx := 1000000, ps := [some 0] }) False) False) := by kernel_rfl
theorem bi91_4 (L : Lp) (R : Option Res → Prop) (N N2 : St → Prop) (ys : List (Elem kb)) (n i : Int) : (evP E91 G91 L (lp91 11) (si91 ys n i 4) (rkn91 L R 2 N 11 N2)) = (
    br (inK n) (br (decide (0 ≤ i ∧ i < (↑ys.length : Int))) (N2 { tm := [AV.ows 0, vI (IntKind.i64.wrap (n + 1)), vJ, vJ, vJ, vI i, vI 5, vJ, vJ, vJ, vJ, vJ, vJ, vJ, vJ, vJ, vJ, vJ, vJ, vJ, vJ, vJ, vJ, vJ, vJ, vJ, vJ, vJ, vJ, vJ, vJ, vJ, vJ, vJ, vJ, vJ, vJ, vJ, vJ, vJ, vJ, vJ, vJ, vJ, vJ, vJ, vJ, vJ, vJ, vJ, vJ], ob := [(0, AO.row kb (updR kb ys i.toNat 7 [Value.string (mt n)]))], nx := 1000000, ps := [some 0] }) False) False) := by kernel_rfl
theorem bi91_5 (L : Lp) (R : Option Res → Prop) (N N2 : St → Prop) (ys : List (Elem kb)) (n i : Int) : (evP E91 G91 L (lp91 11) (si91 ys n i 5) (rkn91 L R 2 N 11 N2)) = (
    br (inK n) (br (decide (0 ≤ i ∧ i < (↑ys.length : Int))) (N2 { tm := [AV.ows 0, vI (IntKind.i64.wrap (n + 1)), vJ, vJ, vJ, vI i, vI 6, vJ, vJ, vJ, vJ, vJ, vJ, vJ, vJ, vJ, vJ, vJ, vJ, vJ, vJ, vJ, vJ, vJ, vJ, vJ, vJ, vJ, vJ, vJ, vJ, vJ, vJ, vJ, vJ, vJ, vJ, vJ, vJ, vJ, vJ, vJ, vJ, vJ, vJ, vJ, vJ, vJ, vJ, vJ, vJ], ob := [(0, AO.row kb (updR kb ys i.toNat 8 [Value.string (mt n)]))], nx := 1000000, ps := [some 0] }) False) False) := by kernel_rfl
theorem bi91_6 (L : Lp) (R : Option Res → Prop) (N N2 : St → Prop) (ys : List (Elem kb)) (n i : Int) : (evP E91 G91 L (lp91 11) (si91 ys n i 6) (rkn91 L R 2 N 11 N2)) = (
    br (inK n) (br (decide (0 ≤ i ∧ i < (↑ys.length : Int))) (N2 { tm := [AV.ows 0, vI (IntKind.i64.wrap (n + 1)), vJ, vJ, vJ, vI i, vI 7, vJ, vJ, vJ, vJ, vJ, vJ, vJ, vJ, vJ, vJ, vJ, vJ, vJ, vJ, vJ, vJ, vJ, vJ, vJ, vJ, vJ, vJ, vJ, vJ, vJ, vJ, vJ, vJ, vJ, vJ, vJ, vJ, vJ, vJ, vJ, vJ, vJ, vJ, vJ, vJ, vJ, vJ, vJ, vJ], ob := [(0, AO.row kb (updR kb ys i.toNat 9 [Value.string (mt n)]))], nx := 1000000, ps := [some 0] }) False) False) := by kernel_rfl
theorem bi91_7 (L : Lp) (R : Option Res → Prop) (N N2 : St → Prop) (ys : List (Elem kb)) (n i : Int) : (evP E91 G91 L (lp91 11) (si91 ys n i 7) (rkn91 L R 2 N 11 N2)) = (
    br (inK n) (br (decide (0 ≤ i ∧ i < (↑ys.length : Int))) (N2 { tm := [AV.ows 0, vI (IntKind.i64.wrap (n + 1)), vJ, vJ, vJ, vI i, vI 8, vJ, vJ, vJ, vJ, vJ, vJ, vJ, vJ, vJ, vJ, vJ, vJ, vJ, vJ, vJ, vJ, vJ, vJ, vJ, vJ, vJ, vJ, vJ, vJ, vJ, vJ, vJ, vJ, vJ, vJ, vJ, vJ, vJ, vJ, vJ, vJ, vJ, vJ, vJ, vJ, vJ, vJ, vJ, vJ], ob := [(0, AO.row kb (updR kb ys i.toNat 10 [Value.string (mt n)]))], nx := 1000000, ps := [some 0] }) False) False) := by kernel_rfl
theorem bi91_8 (L : Lp) (R : Option Res → Prop) (N N2 : St → Prop) (ys : List (Elem kb)) (n i : Int) : (evP E91 G91 L (lp91 11) (si91 ys n i 8) (rkn91 L R 2 N 11 N2)) = (
    N { tm := [AV.ows 0, vI n, vJ, vJ, vJ, vI (IntKind.i64.wrap (i + 1)), vJ, vJ, vJ, vJ, vJ, vJ, vJ, vJ, vJ, vJ, vJ, vJ, vJ, vJ, vJ, vJ, vJ, vJ, vJ, vJ, vJ, vJ, vJ, vJ, vJ, vJ, vJ, vJ, vJ, vJ, vJ, vJ, vJ, vJ, vJ, vJ, vJ, vJ, vJ, vJ, vJ, vJ, vJ, vJ, vJ], ob := [(0, AO.row kb ys)], nx := 1000000, ps := [some 0] }) := by kernel_rfl
theorem h91 : G1Ok Tryz.prog 91 g91 := by
  intro args obs k h
  unfold g91 at h
  split at h
  · rename_i k n xs
    obtain ⟨hp, h⟩ := br_and h
    simp only [inM, decide_eq_true_eq] at hp
    refine ⟨_, ctr_fn okg hg91 Tryz.func91 (by kernel_rfl) (by kernel_rfl) (by kernel_rfl) fun C => ?_, h⟩
    show bodyP Eg G91 _ Tryz.f91 [.ows 0, .val (.int .i64 n)] [.row kb xs] _
    rw [e91]
    refine loopUp okf91 hg91 (fun i (p : List (Elem kb) × Int) => st91 p.1 p.2 i) xs.length (fun i p => p.1 = midM xs n i 0 ∧ p.2 = n + ((11 * i : Nat) : Int)) (fun N i ⟨ys, m⟩ hi ⟨hy, hm⟩ next => ?_) (xs, n) ⟨(midM_0 xs n).symm, by show n = _; omega⟩
    show evP E91 G91 _ (lp91 2) (st91 ys m i) (rk91 _ _ 2 _)
    simp only at hy hm next
    have hyl : ys.length = xs.length := by rw [hy, midM_len]
    have hm' := hm
    subst hm
    generalize hM : n + ((11 * i : Nat) : Int) = M at *
    have w1 : IntKind.i64.wrap (M + 1) = M + 1 := wrap_id (by omega) (by omega)
    have w2 : IntKind.i64.wrap (M + 1 + 1) = M + 2 := by rw [wrap_id (n := M + 1 + 1) (by omega) (by omega)]; omega
    have w3 : IntKind.i64.wrap (M + 2 + 1) = M + 3 := by rw [wrap_id (n := M + 2 + 1) (by omega) (by omega)]; omega
    rw [b91, w1, w2, w3, Int.toNat_natCast]
    refine br_dec (fun h2 => ?_) (fun h2 => ?_)
    rotate_left
    · show _ = _
      rw [← hM, hy, midM_n xs n (by omega), show i = xs.length by omega]
    have his : i < xs.length := by omega
    have u0 : updR kb ys i 0 [.string (mt M)] = midM xs n i 1 := by rw [hy, ← hM]; exact midM_u xs n his rfl
    have u1 : updR kb (midM xs n i 1) i 1 [.int .i64 (M + 1)] = midM xs n i 2 := by rw [← hM]; exact midM_u xs n his rfl
    have u2 : updR kb (midM xs n i 2) i 2 [.string (mt (M + 2))] = midM xs n i 3 := by rw [← hM]; exact midM_u xs n his rfl
    rw [u0, u1, u2]
    refine br_t (inK_of (by omega) (by omega)) (br_yes ⟨by omega, by omega⟩ (br_yes ⟨by omega, by rw [midM_len]; omega⟩ (br_t (inK_of (by omega) (by omega)) (br_yes ⟨by omega, by rw [midM_len]; omega⟩ ?_))))
    refine loopUp okf91 hg91 (fun j (p : List (Elem kb) × Int) => si91 p.1 p.2 i j) 8 (fun j p => p.1 = midM xs n i (3 + j) ∧ p.2 = M + ((3 + j : Nat) : Int)) (fun N2 j ⟨zs, q⟩ hj ⟨hz, hq⟩ next2 => ?_) (midM xs n i 3, M + 3) ⟨rfl, rfl⟩
    simp only at hz hq next2
    have hzl : zs.length = xs.length := by rw [hz, midM_len]
    have cs : j = 0 ∨ j = 1 ∨ j = 2 ∨ j = 3 ∨ j = 4 ∨ j = 5 ∨ j = 6 ∨ j = 7 ∨ j = 8 := by omega
    rcases cs with rfl | rfl | rfl | rfl | rfl | rfl | rfl | rfl | rfl
    · show evP E91 G91 _ (lp91 11) (si91 zs q i 0) (rkn91 _ _ 2 N 11 _)
      obtain rfl : q = M + 3 := by omega
      rw [bi91_0, wrap_id (n := M + 3 + 1) (by omega) (by omega), Int.toNat_natCast]
      have u : updR kb zs i 3 [.string (mt (M + 3))] = midM xs n i 4 := by rw [hz, ← hM]; exact midM_u xs n his rfl
      rw [u]
      refine br_t (inK_of (by omega) (by omega)) (br_yes ⟨by omega, by omega⟩ ?_)
      exact next2 (by omega) (_, M + 3 + 1) ⟨rfl, by show M + 3 + 1 = _; omega⟩
    · show evP E91 G91 _ (lp91 11) (si91 zs q i 1) (rkn91 _ _ 2 N 11 _)
      obtain rfl : q = M + 4 := by omega
      rw [bi91_1, wrap_id (n := M + 4 + 1) (by omega) (by omega), Int.toNat_natCast]
      have u : updR kb zs i 4 [.string (mt (M + 4))] = midM xs n i 5 := by rw [hz, ← hM]; exact midM_u xs n his rfl
      rw [u]
      refine br_t (inK_of (by omega) (by omega)) (br_yes ⟨by omega, by omega⟩ ?_)
      exact next2 (by omega) (_, M + 4 + 1) ⟨rfl, by show M + 4 + 1 = _; omega⟩
    · show evP E91 G91 _ (lp91 11) (si91 zs q i 2) (rkn91 _ _ 2 N 11 _)
      obtain rfl : q = M + 5 := by omega
      rw [bi91_2, wrap_id (n := M + 5 + 1) (by omega) (by omega), Int.toNat_natCast]
      have u : updR kb zs i 5 [.string (mt (M + 5))] = midM xs n i 6 := by rw [hz, ← hM]; exact midM_u xs n his rfl
      rw [u]
      refine br_t (inK_of (by omega) (by omega)) (br_yes ⟨by omega, by omega⟩ ?_)
      exact next2 (by omega) (_, M + 5 + 1) ⟨rfl, by show M + 5 + 1 = _; omega⟩
    · show evP E91 G91 _ (lp91 11) (si91 zs q i 3) (rkn91 _ _ 2 N 11 _)
      obtain rfl : q = M + 6 := by omega
      rw [bi91_3, wrap_id (n := M + 6 + 1) (by omega) (by omega), Int.toNat_natCast]
      have u : updR kb zs i 6 [.string (mt (M + 6))] = midM xs n i 7 := by rw [hz, ← hM]; exact midM_u xs n his rfl
      rw [u]
      refine br_t (inK_of (by omega) (by omega)) (br_yes ⟨by omega, by omega⟩ ?_)
      exact next2 (by omega) (_, M + 6 + 1) ⟨rfl, by show M + 6 + 1 = _; omega⟩
    · show evP E91 G91 _ (lp91 11) (si91 zs q i 4) (rkn91 _ _ 2 N 11 _)
      obtain rfl : q = M + 7 := by omega
      rw [bi91_4, wrap_id (n := M + 7 + 1) (by omega) (by omega), Int.toNat_natCast]
      have u : updR kb zs i 7 [.string (mt (M + 7))] = midM xs n i 8 := by rw [hz, ← hM]; exact midM_u xs n his rfl
      rw [u]
      refine br_t (inK_of (by omega) (by omega)) (br_yes ⟨by omega, by omega⟩ ?_)
      exact next2 (by omega) (_, M + 7 + 1) ⟨rfl, by show M + 7 + 1 = _; omega⟩
    · show evP E91 G91 _ (lp91 11) (si91 zs q i 5) (rkn91 _ _ 2 N 11 _)
      obtain rfl : q = M + 8 := by omega
      rw [bi91_5, wrap_id (n := M + 8 + 1) (by omega) (by omega), Int.toNat_natCast]
      have u : updR kb zs i 8 [.string (mt (M + 8))] = midM xs n i 9 := by rw [hz, ← hM]; exact midM_u xs n his rfl
      rw [u]
      refine br_t (inK_of (by omega) (by omega)) (br_yes ⟨by omega, by omega⟩ ?_)
      exact next2 (by omega) (_, M + 8 + 1) ⟨rfl, by show M + 8 + 1 = _; omega⟩
    · show evP E91 G91 _ (lp91 11) (si91 zs q i 6) (rkn91 _ _ 2 N 11 _)
      obtain rfl : q = M + 9 := by omega
      rw [bi91_6, wrap_id (n := M + 9 + 1) (by omega) (by omega), Int.toNat_natCast]
      have u : updR kb zs i 9 [.string (mt (M + 9))] = midM xs n i 10 := by rw [hz, ← hM]; exact midM_u xs n his rfl
      rw [u]
      refine br_t (inK_of (by omega) (by omega)) (br_yes ⟨by omega, by omega⟩ ?_)
      exact next2 (by omega) (_, M + 9 + 1) ⟨rfl, by show M + 9 + 1 = _; omega⟩
    · show evP E91 G91 _ (lp91 11) (si91 zs q i 7) (rkn91 _ _ 2 N 11 _)
      obtain rfl : q = M + 10 := by omega
      rw [bi91_7, wrap_id (n := M + 10 + 1) (by omega) (by omega), Int.toNat_natCast]
      have u : updR kb zs i 10 [.string (mt (M + 10))] = midM xs n i 11 := by rw [hz, ← hM]; exact midM_u xs n his rfl
      rw [u]
      refine br_t (inK_of (by omega) (by omega)) (br_yes ⟨by omega, by omega⟩ ?_)
      exact next2 (by omega) (_, M + 10 + 1) ⟨rfl, by show M + 10 + 1 = _; omega⟩
    · show evP E91 G91 _ (lp91 11) (si91 zs q i 8) (rkn91 _ _ 2 N 11 _)
      rw [bi91_8, wrap_id (n := (i : Int) + 1) (by omega) (by omega)]
      exact next (by omega) (zs, q) ⟨hz.trans (midM_s xs n i), by show q = _; omega⟩
  · exact h.elim
noncomputable def E33 : Env := Eg.of Tryz.f33
noncomputable def G33 : Gk := gk [(91, g91)]
noncomputable def lp33 (n : Nat) : Code := (loopOf n (codeOf Tryz.f33)).getD .skip
noncomputable def ct33 (L : Lp) (R : Option Res → Prop) (n : Nat) : Kt := contOf E33 G33 L n (codeOf Tryz.f33) (endK E33 Tryz.f33.results.toList R)
noncomputable def rk33 (L : Lp) (R : Option Res → Prop) (n : Nat) (N : St → Prop) : Kt := rk (jof E33 (lp33 n)) N (ct33 L R n)
noncomputable def rkn33 (L : Lp) (R : Option Res → Prop) (n : Nat) (N : St → Prop) (m : Nat) (N2 : St → Prop) : Kt := rk (jof E33 (lp33 m)) N2 (contOf E33 G33 L m (lp33 n) (rk33 L R n N))
noncomputable def LOOPN33 (L : Lp) (R : Option Res → Prop) (n : Nat) (N : St → Prop) (m : Nat) (st : St) : Prop := L (lp33 m) st (contOf E33 G33 L m (lp33 n) (rk33 L R n N))
noncomputable def LOOP33 (L : Lp) (R : Option Res → Prop) (n : Nat) (st : St) : Prop := L (lp33 n) st (ct33 L R n)
theorem hg33 : HG Tryz.prog G33 := (hg_cons h91 hg_nil)
theorem okf33 : Ok Tryz.prog E33 := okg.of Tryz.f33
theorem e33 (L : Lp) (R : Option Res → Prop) (xs : List (Elem kb)) (n : Int) : (bodyP Eg G33 L Tryz.f33 [.agg [.ows 0], .val (.int .i64 n)] [.row kb xs] R) = (
    br (inM n xs.length) (R (some { av := vI (n + (↑(11 * xs.length) : Int)), obs := [AO.row kb (mkS mkB 11 n xs.length)], outs := [some 0] })) False) := by kernel_rfl
theorem h33 : G1Ok Tryz.prog 33 g33 := by
  intro args obs k h
  unfold g33 at h
  split at h
  · rename_i k n xs
    obtain ⟨hp, h⟩ := br_and h
    refine ⟨_, ctr_fn okg hg33 Tryz.func33 (by kernel_rfl) (by kernel_rfl) (by kernel_rfl) fun C => ?_, h⟩
    show bodyP Eg G33 _ Tryz.f33 [.agg [.ows 0], .val (.int .i64 n)] [.row kb xs] _
    rw [e33]
    exact br_t hp rfl
  · exact h.elim
noncomputable def E92 : Env := Eg.of Tryz.f92
noncomputable def G92 : Gk := gk [(142, g142)]
noncomputable def lp92 (n : Nat) : Code := (loopOf n (codeOf Tryz.f92)).getD .skip
noncomputable def ct92 (L : Lp) (R : Option Res → Prop) (n : Nat) : Kt := contOf E92 G92 L n (codeOf Tryz.f92) (endK E92 Tryz.f92.results.toList R)
noncomputable def rk92 (L : Lp) (R : Option Res → Prop) (n : Nat) (N : St → Prop) : Kt := rk (jof E92 (lp92 n)) N (ct92 L R n)
noncomputable def rkn92 (L : Lp) (R : Option Res → Prop) (n : Nat) (N : St → Prop) (m : Nat) (N2 : St → Prop) : Kt := rk (jof E92 (lp92 m)) N2 (contOf E92 G92 L m (lp92 n) (rk92 L R n N))
noncomputable def LOOPN92 (L : Lp) (R : Option Res → Prop) (n : Nat) (N : St → Prop) (m : Nat) (st : St) : Prop := L (lp92 m) st (contOf E92 G92 L m (lp92 n) (rk92 L R n N))
noncomputable def LOOP92 (L : Lp) (R : Option Res → Prop) (n : Nat) (st : St) : Prop := L (lp92 n) st (ct92 L R n)
theorem hg92 : HG Tryz.prog G92 := (hg_cons h142 hg_nil)
theorem okf92 : Ok Tryz.prog E92 := okg.of Tryz.f92
theorem e92 (L : Lp) (R : Option Res → Prop) (xs : List (Elem kb)) (n : Int) : (bodyP Eg G92 L Tryz.f92 [.rsl kb xs, .val (.int .i64 n)] [] R) = (
    LOOP92 L R 2 { tm := [AV.rsl kb xs, vI n, vJ, vJ, vJ, vI 0, vJ, vJ, vJ, vJ, vJ, vJ, vJ, vJ, vJ, vJ, vJ, vJ, vJ, vJ, vJ, vJ, vJ, vJ, vJ, vJ, vJ, vJ, vJ, vJ, vJ, vJ, vJ, vJ, vJ, vJ, vJ, vJ, vJ, vJ, vJ, vJ, vJ, vJ, vJ, vJ, vJ, vJ, vJ, vJ, vJ, vJ, vJ, vJ, vJ, vJ, vJ, vJ, vJ], ob := [], nx := 1000000, ps := [] }) := by kernel_rfl
def st92 (xs : List (Elem kb)) (n i : Int) : St :=  ⟨[AV.rsl kb xs, .val (.int .i64 n), vJ, vJ, vJ, .val (.int .i64 i), vJ, vJ, vJ, vJ, vJ, vJ, vJ, vJ, vJ, vJ, vJ, vJ, vJ, vJ, vJ, vJ, vJ, vJ, vJ, vJ, vJ, vJ, vJ, vJ, vJ, vJ, vJ, vJ, vJ, vJ, vJ, vJ, vJ, vJ, vJ, vJ, vJ, vJ, vJ, vJ, vJ, vJ, vJ, vJ, vJ, vJ, vJ, vJ, vJ, vJ, vJ, vJ, vJ], [], 1000000, []⟩
theorem b92 (L : Lp) (R : Option Res → Prop) (N : St → Prop) (xs : List (Elem kb)) (n i : Int) : (evP E92 G92 L (lp92 2) (st92 xs n i) (rk92 L R 2 N)) = (
    br (decide (i < (↑xs.length : Int))) (br (decide (0 ≤ i ∧ i < (↑xs.length : Int))) (br (inK n) (br (!strEq (xs.getD i.toNat (edflt kb)).fst (mt n)) (R (some { av := vI (-1), obs := [], outs := [] })) (br (decide (0 ≤ i ∧ i < (↑xs.length : Int))) (br ((xs.getD i.toNat (edflt kb)).snd.fst != IntKind.i64.wrap (n + 1)) (R (some { av := vI (-1), obs := [], outs := [] })) (br (decide (0 ≤ i ∧ i < (↑xs.length : Int))) (br (inK (IntKind.i64.wrap (IntKind.i64.wrap (n + 1) + 1))) (br (!strEq (xs.getD i.toNat (edflt kb)).snd.snd.fst (mt (IntKind.i64.wrap (IntKind.i64.wrap (n + 1) + 1)))) (R (some { av := vI (-1), obs := [], outs := [] })) (LOOPN92 L R 2 N 14 { tm := [AV.rsl kb xs, vI (IntKind.i64.wrap (IntKind.i64.wrap (IntKind.i64.wrap (n + 1) + 1) + 1)), vJ, vJ, vJ, vI i, vI 0, vJ, vJ, vJ, vJ, vJ, vJ, vJ, vJ, vJ, vJ, vJ, vJ, vJ, vJ, vJ, vJ, vJ, vJ, vJ, vJ, vJ, vJ, vJ, vJ, vJ, vJ, vJ, vJ, vJ, vJ, vJ, vJ, vJ, vJ, vJ, vJ, vJ, vJ, vJ, vJ, vJ, vJ, vJ, vJ, vJ, vJ, vJ, vJ, vJ, vJ, vJ, vJ], ob := [], nx := 1000000, ps := [] })) False) False)) False)) False) False) (R (some { av := vI n, obs := [], outs := [] }))) := by kernel_rfl
def si92 (xs : List (Elem kb)) (n i j : Int) : St :=  ⟨[AV.rsl kb xs, .val (.int .i64 n), vJ, vJ, vJ, .val (.int .i64 i), .val (.int .i64 j), vJ, vJ, vJ, vJ, vJ, vJ, vJ, vJ, vJ, vJ, vJ, vJ, vJ, vJ, vJ, vJ, vJ, vJ, vJ, vJ, vJ, vJ, vJ, vJ, vJ, vJ, vJ, vJ, vJ, vJ, vJ, vJ, vJ, vJ, vJ, vJ, vJ, vJ, vJ, vJ, vJ, vJ, vJ, vJ, vJ, vJ, vJ, vJ, vJ, vJ, vJ, vJ], [], 1000000, []⟩
theorem bi92_0 (L : Lp) (R : Option Res → Prop) (N N2 : St → Prop) (xs : List (Elem kb)) (n i : Int) : (evP E92 G92 L (lp92 14) (si92 xs n i 0) (rkn92 L R 2 N 14 N2)) = (
    br (decide (0 ≤ i ∧ i < (↑xs.length : Int))) (br (inK n) (br (!strEq (xs.getD i.toNat (edflt kb)).snd.snd.snd.fst (mt n)) (R (some { av := vI (-1), obs := [], outs := [] })) (N2 { tm := [AV.rsl kb xs, vI (IntKind.i64.wrap (n + 1)), vJ, vJ, vJ, vI i, vI 1, vJ, vJ, vJ, vJ, vJ, vJ, vJ, vJ, vJ, vJ, vJ, vJ, vJ, vJ, vJ, vJ, vJ, vJ, vJ, vJ, vJ, vJ, vJ, vJ, vJ, vJ, vJ, vJ, vJ, vJ, vJ, vJ, vJ, vJ, vJ, vJ, vJ, vJ, vJ, vJ, vJ, vJ, vJ, vJ, vJ, vJ, vJ, vJ, vJ, vJ, vJ, vJ], ob := [], nx := 1000000, ps := [] })) False) False) := by kernel_rfl
theorem bi92_1 (L : Lp) (R : Option Res → Prop) (N N2 : St → Prop) (xs : List (Elem kb)) (n i : Int) : (evP E92 G92 L (lp92 14) (si92 xs n i 1) (rkn92 L R 2 N 14 N2)) = (
    br (decide (0 ≤ i ∧ i < (↑xs.length : Int))) (br (inK n) (br (!strEq (xs.getD i.toNat (edflt kb)).snd.snd.snd.snd.fst (mt n)) (R (some { av := vI (-1), obs := [], outs := [] })) (N2 { tm := [AV.rsl kb xs, vI (IntKind.i64.wrap (n + 1)), vJ, vJ, vJ, vI i, vI 2, vJ, vJ, vJ, vJ, vJ, vJ, vJ, vJ, vJ, vJ, vJ, vJ, vJ, vJ, vJ, vJ, vJ, vJ, vJ, vJ, vJ, vJ, vJ, vJ, vJ, vJ, vJ, vJ, vJ, vJ, vJ, vJ, vJ, vJ, vJ, vJ, vJ, vJ, vJ, vJ, vJ, vJ, vJ, vJ, vJ, vJ, vJ, vJ, vJ, vJ, vJ, vJ], ob := [], nx := 1000000, ps := [] })) False) False) := by kernel_rfl
theorem bi92_2 (L : Lp) (R : Option Res → Prop) (N N2 : St → Prop) (xs : List (Elem kb)) (n i : Int) : (evP E92 G92 L (lp92 14) (si92 xs n i 2) (rkn92 L R 2 N 14 N2)) = (
    br (decide (0 ≤ i ∧ i < (↑xs.length : Int))) (br (inK n) (br (!strEq (xs.getD i.toNat (edflt kb)).snd.snd.snd.snd.snd.fst (mt n)) (R (some { av := vI (-1), obs := [], outs := [] })) (N2 { tm := [AV.rsl kb xs, vI (IntKind.i64.wrap (n + 1)), vJ, vJ, vJ, vI i, vI 3, vJ, vJ, vJ, vJ, vJ, vJ, vJ, vJ, vJ, vJ, vJ, vJ, vJ, vJ, vJ, vJ, vJ, vJ, vJ, vJ, vJ, vJ, vJ, vJ, vJ, vJ, vJ, vJ, vJ, vJ, vJ, vJ, vJ, vJ, vJ, vJ, vJ, vJ, vJ, vJ, vJ, vJ, vJ, vJ, vJ, vJ, vJ, vJ, vJ, vJ, vJ, vJ], ob := [], nx := 1000000, ps := [] })) False) False) := by kernel_rfl
theorem bi92_3 (L : Lp) (R : Option Res → Prop) (N N2 : St → Prop) (xs : List (Elem kb)) (n i : Int) : (evP E92 G92 L (lp92 14) (si92 xs n i 3) (rkn92 L R 2 N 14 N2)) = (
    br (decide (0 ≤ i ∧ i < (↑xs.length : Int))) (br (inK n) (br (!strEq (xs.getD i.toNat (edflt kb)).snd.snd.snd.snd.snd.snd.fst (mt n)) (R (some { av := vI (-1), obs := [], outs := [] })) (N2 { tm := [AV.rsl kb xs, vI (IntKind.i64.wrap (n + 1)), vJ, vJ, vJ, vI i, vI 4, vJ, vJ, vJ, vJ, vJ, vJ, vJ, vJ, vJ, vJ, vJ, vJ, vJ, vJ, vJ, vJ, vJ, vJ, vJ, vJ, vJ, vJ, vJ, vJ, vJ, vJ, vJ, vJ, vJ, vJ, vJ, vJ, vJ, vJ, vJ, vJ, vJ, vJ, vJ, vJ, vJ, vJ, vJ, vJ, vJ, vJ, vJ, vJ, vJ, vJ, vJ, vJ], ob := [], nx := 1000000, ps := [] })) False) False) := by kernel_rfl
theorem bi92_4 (L : Lp) (R : Option Res → Prop) (N N2 : St → Prop) (xs : List (Elem kb)) (n i : Int) : (evP E92 G92 L (lp92 14) (si92 xs n i 4) (rkn92 L R 2 N 14 N2)) = (
    br (decide (0 ≤ i ∧ i < (↑xs.length : Int))) (br (inK n) (br (!strEq (xs.getD i.toNat (edflt kb)).snd.snd.snd.snd.snd.snd.snd.fst (mt n)) (R (some { av := vI (-1), obs := [], outs := [] })) (N2 { tm := [AV.rsl kb xs, vI (IntKind.i64.wrap (n + 1)), vJ, vJ, vJ, vI i, vI 5, vJ, vJ, vJ, vJ, vJ, vJ, vJ, vJ, vJ, vJ, vJ, vJ, vJ, vJ, vJ, vJ, vJ, vJ, vJ, vJ, vJ, vJ, vJ, vJ, vJ, vJ, vJ, vJ, vJ, vJ, vJ, vJ, vJ, vJ, vJ, vJ, vJ, vJ, vJ, vJ, vJ, vJ, vJ, vJ, vJ, vJ, vJ, vJ, vJ, vJ, vJ, vJ], ob := [], nx := 1000000, ps := [] })) False) False) := by kernel_rfl
theorem bi92_5 (L : Lp) (R : Option Res → Prop) (N N2 : St → Prop) (xs : List (Elem kb)) (n i : Int) : (evP E92 G92 L (lp92 14) (si92 xs n i 5) (rkn92 L R 2 N 14 N2)) = (
    br (decide (0 ≤ i ∧ i < (↑xs.length : Int))) (br (inK n) (br (!strEq (xs.getD i.toNat (edflt kb)).snd.snd.snd.snd.snd.snd.snd.snd.fst (mt n)) (R (some { av := vI (-1), obs := [], outs := [] })) (N2 { tm := [AV.rsl kb xs, vI (IntKind.i64.wrap (n + 1)), vJ, vJ, vJ, vI i, vI 6, vJ, vJ, vJ, vJ, vJ, vJ, vJ, vJ, vJ, vJ, vJ, vJ, vJ, vJ, vJ, vJ, vJ, vJ, vJ, vJ, vJ, vJ, vJ, vJ, vJ, vJ, vJ, vJ, vJ, vJ, vJ, vJ, vJ, vJ, vJ, vJ, vJ, vJ, vJ, vJ, vJ, vJ, vJ, vJ, vJ, vJ, vJ, vJ, vJ, vJ, vJ, vJ], ob := [], nx := 1000000, ps := [] })) False) False) := by kernel_rfl
theorem bi92_6 (L : Lp) (R : Option Res → Prop) (N N2 : St → Prop) (xs : List (Elem kb)) (n i : Int) : (evP E92 G92 L (lp92 14) (si92 xs n i 6) (rkn92 L R 2 N 14 N2)) = (
    br (decide (0 ≤ i ∧ i < (↑xs.length : Int))) (br (inK n) (br (!strEq (xs.getD i.toNat (edflt kb)).snd.snd.snd.snd.snd.snd.snd.snd.snd.fst (mt n)) (R (some { av := vI (-1), obs := [], outs := [] })) (N2 { tm := [AV.rsl kb xs, vI (IntKind.i64.wrap (n + 1)), vJ, vJ, vJ, vI i, vI 7, vJ, vJ, vJ, vJ, vJ, vJ, vJ, vJ, vJ, vJ, vJ, vJ, vJ, vJ, vJ, vJ, vJ, vJ, vJ, vJ, vJ, vJ, vJ, vJ, vJ, vJ, vJ, vJ, vJ, vJ, vJ, vJ, vJ, vJ, vJ, vJ, vJ, vJ, vJ, vJ, vJ, vJ, vJ, vJ, vJ, vJ, vJ, vJ, vJ, vJ, vJ, vJ], ob := [], nx := 1000000, ps := [] })) False) False) := by kernel_rfl
theorem bi92_7 (L : Lp) (R : Option Res → Prop) (N N2 : St → Prop) (xs : List (Elem kb)) (n i : Int) : (evP E92 G92 L (lp92 14) (si92 xs n i 7) (rkn92 L R 2 N 14 N2)) = (
    br (decide (0 ≤ i ∧ i < (↑xs.length : Int))) (br (inK n) (br (!strEq (xs.getD i.toNat (edflt kb)).snd.snd.snd.snd.snd.snd.snd.snd.snd.snd.fst (mt n)) (R (some { av := vI (-1), obs := [], outs := [] })) (N2 { tm := [AV.rsl kb xs, vI (IntKind.i64.wrap (n + 1)), vJ, vJ, vJ, vI i, vI 8, vJ, vJ, vJ, vJ, vJ, vJ, vJ, vJ, vJ, vJ, vJ, vJ, vJ, vJ, vJ, vJ, vJ, vJ, vJ, vJ, vJ, vJ, vJ, vJ, vJ, vJ, vJ, vJ, vJ, vJ, vJ, vJ, vJ, vJ, vJ, vJ, vJ, vJ, vJ, vJ, vJ, vJ, vJ, vJ, vJ, vJ, vJ, vJ, vJ, vJ, vJ, vJ], ob := [], nx := 1000000, ps := [] })) False) False) := by kernel_rfl
theorem bi92_8 (L : Lp) (R : Option Res → Prop) (N N2 : St → Prop) (xs : List (Elem kb)) (n i : Int) : (evP E92 G92 L (lp92 14) (si92 xs n i 8) (rkn92 L R 2 N 14 N2)) = (
    N { tm := [AV.rsl kb xs, vI n, vJ, vJ, vJ, vI (IntKind.i64.wrap (i + 1)), vJ, vJ, vJ, vJ, vJ, vJ, vJ, vJ, vJ, vJ, vJ, vJ, vJ, vJ, vJ, vJ, vJ, vJ, vJ, vJ, vJ, vJ, vJ, vJ, vJ, vJ, vJ, vJ, vJ, vJ, vJ, vJ, vJ, vJ, vJ, vJ, vJ, vJ, vJ, vJ, vJ, vJ, vJ, vJ, vJ, vJ, vJ, vJ, vJ, vJ, vJ, vJ, vJ], ob := [], nx := 1000000, ps := [] }) := by kernel_rfl
theorem h92 : G1Ok Tryz.prog 92 g92 := by
  intro args obs k h
  unfold g92 at h
  split at h
  · rename_i k xs n
    obtain ⟨hp, hh, h⟩ := brb2 h
    simp only [inM, decide_eq_true_eq] at hp
    refine ⟨_, ctr_fn okg hg92 Tryz.func92 (by kernel_rfl) (by kernel_rfl) (by kernel_rfl) fun C => ?_, h⟩
    show bodyP Eg G92 _ Tryz.f92 [.rsl kb xs, .val (.int .i64 n)] [] _
    rw [e92]
    refine loopUp okf92 hg92 (fun i m => st92 xs m i) xs.length (fun i m => m = n + ((11 * i : Nat) : Int)) (fun N i m hi hm next => ?_) n (by omega)
    show evP E92 G92 _ (lp92 2) (st92 xs m i) (rk92 _ _ 2 _)
    have w1 : IntKind.i64.wrap (m + 1) = m + 1 := wrap_id (by omega) (by omega)
    have w2 : IntKind.i64.wrap (m + 1 + 1) = m + 2 := by rw [wrap_id (n := m + 1 + 1) (by omega) (by omega)]; omega
    have w3 : IntKind.i64.wrap (m + 2 + 1) = m + 3 := by rw [wrap_id (n := m + 2 + 1) (by omega) (by omega)]; omega
    rw [b92, w1, w2, w3, Int.toNat_natCast]
    refine br_dec (fun h2 => ?_) (fun h2 => ?_)
    rotate_left
    · show _ = _
      rw [hm, show i = xs.length by omega]
    have his : i < xs.length := by omega
    have hE := mkB_eq (allB_at hh his)
    rw [← hm] at hE
    obtain ⟨q0, q1, q2, q3, q4, q5, q6, q7, q8, q9, q10⟩ := hE
    have q1' : ((xs.getD i (edflt kb)).2.1 != m + 1) = false := by rw [bne, q1]; rfl
    refine br_yes ⟨by omega, h2⟩ (br_t (inK_of (by omega) (by omega)) (br_f (by rw [q0]; rfl) (br_yes ⟨by omega, h2⟩ (br_f q1' (br_yes ⟨by omega, h2⟩ (br_t (inK_of (by omega) (by omega)) (br_f (by rw [q2]; rfl) ?_)))))))
    refine loopUp okf92 hg92 (fun j q => si92 xs q i j) 8 (fun j q => q = m + ((3 + j : Nat) : Int)) (fun N2 j q hj hq next2 => ?_) (m + 3) rfl
    have cs : j = 0 ∨ j = 1 ∨ j = 2 ∨ j = 3 ∨ j = 4 ∨ j = 5 ∨ j = 6 ∨ j = 7 ∨ j = 8 := by omega
    rcases cs with rfl | rfl | rfl | rfl | rfl | rfl | rfl | rfl | rfl
    · show evP E92 G92 _ (lp92 14) (si92 xs q i 0) (rkn92 _ _ 2 N 14 _)
      obtain rfl : q = m + 3 := by omega
      rw [bi92_0, wrap_id (n := m + 3 + 1) (by omega) (by omega), Int.toNat_natCast]
      refine br_yes ⟨by omega, h2⟩ (br_t (inK_of (by omega) (by omega)) (br_f (by rw [q3]; rfl) ?_))
      exact next2 (by omega) _ (by omega)
    · show evP E92 G92 _ (lp92 14) (si92 xs q i 1) (rkn92 _ _ 2 N 14 _)
      obtain rfl : q = m + 4 := by omega
      rw [bi92_1, wrap_id (n := m + 4 + 1) (by omega) (by omega), Int.toNat_natCast]
      refine br_yes ⟨by omega, h2⟩ (br_t (inK_of (by omega) (by omega)) (br_f (by rw [q4]; rfl) ?_))
      exact next2 (by omega) _ (by omega)
    · show evP E92 G92 _ (lp92 14) (si92 xs q i 2) (rkn92 _ _ 2 N 14 _)
      obtain rfl : q = m + 5 := by omega
      rw [bi92_2, wrap_id (n := m + 5 + 1) (by omega) (by omega), Int.toNat_natCast]
      refine br_yes ⟨by omega, h2⟩ (br_t (inK_of (by omega) (by omega)) (br_f (by rw [q5]; rfl) ?_))
      exact next2 (by omega) _ (by omega)
    · show evP E92 G92 _ (lp92 14) (si92 xs q i 3) (rkn92 _ _ 2 N 14 _)
      obtain rfl : q = m + 6 := by omega
      rw [bi92_3, wrap_id (n := m + 6 + 1) (by omega) (by omega), Int.toNat_natCast]
      refine br_yes ⟨by omega, h2⟩ (br_t (inK_of (by omega) (by omega)) (br_f (by rw [q6]; rfl) ?_))
      exact next2 (by omega) _ (by omega)
    · show evP E92 G92 _ (lp92 14) (si92 xs q i 4) (rkn92 _ _ 2 N 14 _)
      obtain rfl : q = m + 7 := by omega
      rw [bi92_4, wrap_id (n := m + 7 + 1) (by omega) (by omega), Int.toNat_natCast]
      refine br_yes ⟨by omega, h2⟩ (br_t (inK_of (by omega) (by omega)) (br_f (by rw [q7]; rfl) ?_))
      exact next2 (by omega) _ (by omega)
    · show evP E92 G92 _ (lp92 14) (si92 xs q i 5) (rkn92 _ _ 2 N 14 _)
      obtain rfl : q = m + 8 := by omega
      rw [bi92_5, wrap_id (n := m + 8 + 1) (by omega) (by omega), Int.toNat_natCast]
      refine br_yes ⟨by omega, h2⟩ (br_t (inK_of (by omega) (by omega)) (br_f (by rw [q8]; rfl) ?_))
      exact next2 (by omega) _ (by omega)
    · show evP E92 G92 _ (lp92 14) (si92 xs q i 6) (rkn92 _ _ 2 N 14 _)
      obtain rfl : q = m + 9 := by omega
      rw [bi92_6, wrap_id (n := m + 9 + 1) (by omega) (by omega), Int.toNat_natCast]
      refine br_yes ⟨by omega, h2⟩ (br_t (inK_of (by omega) (by omega)) (br_f (by rw [q9]; rfl) ?_))
      exact next2 (by omega) _ (by omega)
    · show evP E92 G92 _ (lp92 14) (si92 xs q i 7) (rkn92 _ _ 2 N 14 _)
      obtain rfl : q = m + 10 := by omega
      rw [bi92_7, wrap_id (n := m + 10 + 1) (by omega) (by omega), Int.toNat_natCast]
      refine br_yes ⟨by omega, h2⟩ (br_t (inK_of (by omega) (by omega)) (br_f (by rw [q10]; rfl) ?_))
      exact next2 (by omega) _ (by omega)
    · show evP E92 G92 _ (lp92 14) (si92 xs q i 8) (rkn92 _ _ 2 N 14 _)
      rw [bi92_8, wrap_id (n := (i : Int) + 1) (by omega) (by omega)]
      exact next (by omega) _ (by omega)
  · exact h.elim
noncomputable def E34 : Env := Eg.of Tryz.f34
noncomputable def G34 : Gk := gk [(92, g92)]
noncomputable def lp34 (n : Nat) : Code := (loopOf n (codeOf Tryz.f34)).getD .skip
noncomputable def ct34 (L : Lp) (R : Option Res → Prop) (n : Nat) : Kt := contOf E34 G34 L n (codeOf Tryz.f34) (endK E34 Tryz.f34.results.toList R)
noncomputable def rk34 (L : Lp) (R : Option Res → Prop) (n : Nat) (N : St → Prop) : Kt := rk (jof E34 (lp34 n)) N (ct34 L R n)
noncomputable def rkn34 (L : Lp) (R : Option Res → Prop) (n : Nat) (N : St → Prop) (m : Nat) (N2 : St → Prop) : Kt := rk (jof E34 (lp34 m)) N2 (contOf E34 G34 L m (lp34 n) (rk34 L R n N))
noncomputable def LOOPN34 (L : Lp) (R : Option Res → Prop) (n : Nat) (N : St → Prop) (m : Nat) (st : St) : Prop := L (lp34 m) st (contOf E34 G34 L m (lp34 n) (rk34 L R n N))
noncomputable def LOOP34 (L : Lp) (R : Option Res → Prop) (n : Nat) (st : St) : Prop := L (lp34 n) st (ct34 L R n)
theorem hg34 : HG Tryz.prog G34 := (hg_cons h92 hg_nil)
theorem okf34 : Ok Tryz.prog E34 := okg.of Tryz.f34
theorem e34 (L : Lp) (R : Option Res → Prop) (xs : List (Elem kb)) (n : Int) : (bodyP Eg G34 L Tryz.f34 [.agg [.rsl kb xs], .val (.int .i64 n)] [] R) = (
    br (inM n xs.length && hdB kb mkB 11 n xs) (br (decide (n + (↑(11 * xs.length) : Int) < 0)) (R (some { av := vI (-1), obs := [], outs := [] })) (R (some { av := vI (n + (↑(11 * xs.length) : Int)), obs := [], outs := [] }))) False) := by kernel_rfl
theorem h34 : G1Ok Tryz.prog 34 g34 := by
  intro args obs k h
  unfold g34 at h
  split at h
  · rename_i k xs n
    obtain ⟨hp, h⟩ := br_and h
    refine ⟨_, ctr_fn okg hg34 Tryz.func34 (by kernel_rfl) (by kernel_rfl) (by kernel_rfl) fun C => ?_, h⟩
    show bodyP Eg G34 _ Tryz.f34 [.agg [.rsl kb xs], .val (.int .i64 n)] [] _
    rw [e34]
    have h0 : 0 ≤ n := by
      rw [Bool.and_eq_true] at hp
      exact inM_ge hp.1
    exact br_t hp (br_no (by omega) rfl)
  · exact h.elim
end Go.Proofs.YtkjnijddbiconaaGreatDoor.Ev
