/- The law of CoreRootRead: marks in core sets, with contents. -/
import Derived.Test.YtkjnijddbiconaaGreatDoorMC
namespace Go.Proofs.YtkjnijddbiconaaGreatDoor.Ev
open Go
set_option linter.unusedVariables false
set_option linter.unusedSimpArgs false
set_option maxRecDepth 100000
set_option maxHeartbeats 1000000
def ptC (e : Elem kc) (m : Int) (c : Nat) : Elem kc := ((match Nat.blt 0 c with | true => mt m | false => e.1), (match Nat.blt 1 c with | true => m + 1 | false => e.2.1), (match Nat.blt 2 c with | true => mt (m + 2) | false => e.2.2.1), e.2.2.2.1, e.2.2.2.2.1, e.2.2.2.2.2.1, e.2.2.2.2.2.2.1, e.2.2.2.2.2.2.2.1, e.2.2.2.2.2.2.2.2.1, e.2.2.2.2.2.2.2.2.2.1, e.2.2.2.2.2.2.2.2.2.2.1, e.2.2.2.2.2.2.2.2.2.2.2.1, e.2.2.2.2.2.2.2.2.2.2.2.2.1, e.2.2.2.2.2.2.2.2.2.2.2.2.2.1, e.2.2.2.2.2.2.2.2.2.2.2.2.2.2.1, e.2.2.2.2.2.2.2.2.2.2.2.2.2.2.2.1, e.2.2.2.2.2.2.2.2.2.2.2.2.2.2.2.2.1, e.2.2.2.2.2.2.2.2.2.2.2.2.2.2.2.2.2.1, e.2.2.2.2.2.2.2.2.2.2.2.2.2.2.2.2.2.2.1, e.2.2.2.2.2.2.2.2.2.2.2.2.2.2.2.2.2.2.2.1, e.2.2.2.2.2.2.2.2.2.2.2.2.2.2.2.2.2.2.2.2.1, e.2.2.2.2.2.2.2.2.2.2.2.2.2.2.2.2.2.2.2.2.2.1, e.2.2.2.2.2.2.2.2.2.2.2.2.2.2.2.2.2.2.2.2.2.2.1, e.2.2.2.2.2.2.2.2.2.2.2.2.2.2.2.2.2.2.2.2.2.2.2.1, e.2.2.2.2.2.2.2.2.2.2.2.2.2.2.2.2.2.2.2.2.2.2.2.2.1, e.2.2.2.2.2.2.2.2.2.2.2.2.2.2.2.2.2.2.2.2.2.2.2.2.2.1, e.2.2.2.2.2.2.2.2.2.2.2.2.2.2.2.2.2.2.2.2.2.2.2.2.2.2.1, (match Nat.blt 3 c with | true => m + 3 | false => e.2.2.2.2.2.2.2.2.2.2.2.2.2.2.2.2.2.2.2.2.2.2.2.2.2.2.2.1), (match Nat.blt 4 c with | true => m + 4 | false => e.2.2.2.2.2.2.2.2.2.2.2.2.2.2.2.2.2.2.2.2.2.2.2.2.2.2.2.2.1), (match Nat.blt 5 c with | true => m + 5 | false => e.2.2.2.2.2.2.2.2.2.2.2.2.2.2.2.2.2.2.2.2.2.2.2.2.2.2.2.2.2.1), (match Nat.blt 6 c with | true => ((m + 6).tmod 3 == 0) | false => e.2.2.2.2.2.2.2.2.2.2.2.2.2.2.2.2.2.2.2.2.2.2.2.2.2.2.2.2.2.2.1), ())
def stc (i k q : Nat) : Nat := match Nat.blt q i with
  | true => 7
  | false => match Nat.beq q i with
    | true => k
    | false => 0
def midC (xs : List (Elem kc)) (n : Int) (i c : Nat) : List (Elem kc) := (List.range xs.length).map fun q => ptC (xs.getD q (edflt kc)) (n + ((7 * q : Nat) : Int)) (stc i c q)
def mkC (e : Elem kc) (m : Int) : Bool := (strEq e.1 (mt m) && ((e.2.1 == m + 1) && (strEq e.2.2.1 (mt (m + 2)) && ((e.2.2.2.2.2.2.2.2.2.2.2.2.2.2.2.2.2.2.2.2.2.2.2.2.2.2.2.1 == m + 3) && ((e.2.2.2.2.2.2.2.2.2.2.2.2.2.2.2.2.2.2.2.2.2.2.2.2.2.2.2.2.1 == m + 4) && ((e.2.2.2.2.2.2.2.2.2.2.2.2.2.2.2.2.2.2.2.2.2.2.2.2.2.2.2.2.2.1 == m + 5) && (e.2.2.2.2.2.2.2.2.2.2.2.2.2.2.2.2.2.2.2.2.2.2.2.2.2.2.2.2.2.2.1 == ((m + 6).tmod 3 == 0))))))))
def hdC (n : Int) (xs : List (Elem kc)) : Bool := allB xs.length fun q => mkC (xs.getD q (edflt kc)) (n + ((7 * q : Nat) : Int))
def g66c : G1
  | [.ows 0, .val (.int .i64 n)], [.row cx xs0], k => match castE kc cx xs0 with
    | some xs => br (inM n xs.length) (k ⟨.val (.int .i64 (n + ((7 * xs.length : Nat) : Int))), [.row kc (midC xs n xs.length 0)], [some 0]⟩) False
    | none => False
  | _, _, _ => False
def g101 : G1
  | [.rsl cx xs0, .val (.int .i64 n)], [], k => match castE kc cx xs0 with
    | some xs => br (inM n xs.length && hdC n xs) (k ⟨.val (.int .i64 (n + ((7 * xs.length : Nat) : Int))), [], []⟩) False
    | none => False
  | _, _, _ => False
def g17c : G1
  | [.agg [.val (.int .i64 x), .ows 0, .ows 1, .ows 2, .val (.bool b), .ows 3, .val (.int .i64 n)], .val (.int .i64 m)], [.row cx s0, .row [.int .i64, .int .i64, .int .i64] d, .row [.int .i64, .int .i64, .int .i64] p, .row [.int .i64] f], k => match castE kc cx s0 with
    | some s => br (inC4 m s.length d.length p.length f.length) (k ⟨.val (.int .i64 (mkCo (x, s, d, p, b, f, n) m)), [.row kc (midC s m s.length 0), .row k3 (mkS mk3 3 (m + ((7 * s.length : Nat) : Int)) d.length), .row k3 (mkS mk3 3 (m + ((7 * s.length : Nat) : Int) + ((3 * d.length : Nat) : Int)) p.length), .row ki (mkS mkI 1 (m + ((7 * s.length : Nat) : Int) + ((3 * d.length : Nat) : Int) + ((3 * p.length : Nat) : Int)) f.length)], [some 0, some 1, some 2, some 3]⟩) False
    | none => False
  | _, _, _ => False
theorem ptC_0 (e : Elem kc) (m : Int) : ptC e m 0 = e := rfl
theorem mkC_pt (e : Elem kc) (m : Int) : mkC (ptC e m 7) m = true := by
  show (strEq (mt m) (mt m) && ((m + 1 == m + 1) && (strEq (mt (m + 2)) (mt (m + 2)) && ((m + 3 == m + 3) && ((m + 4 == m + 4) && ((m + 5 == m + 5) && (((m + 6).tmod 3 == 0) == ((m + 6).tmod 3 == 0)))))))) = true
  rw [strEq_self, strEq_self]
  simp
theorem stc_lt {i k q : Nat} (h : q < i) : stc i k q = 7 := by unfold stc; rw [show Nat.blt q i = true from Nat.ble_eq_true_of_le h]
theorem stc_eq (i k : Nat) : stc i k i = k := by
  unfold stc
  rw [show Nat.blt i i = false from by cases h : Nat.blt i i with | false => rfl | true => (have h3 : i + 1 ≤ i := Nat.le_of_ble_eq_true h; omega), Nat.beq_refl]
theorem stc_gt {i k q : Nat} (h : i < q) : stc i k q = 0 := by
  unfold stc
  rw [show Nat.blt q i = false from by cases h2 : Nat.blt q i with | false => rfl | true => (have h3 : q + 1 ≤ i := Nat.le_of_ble_eq_true h2; omega)]
  rw [show Nat.beq q i = false from by cases h2 : Nat.beq q i with | false => rfl | true => (have := Nat.eq_of_beq_eq_true h2; omega)]
theorem midC_len (xs : List (Elem kc)) (n : Int) (i k : Nat) : (midC xs n i k).length = xs.length := by simp [midC]
theorem midC_at (xs : List (Elem kc)) (n : Int) (i k : Nat) {q : Nat} (hq : q < xs.length) : (midC xs n i k)[q]? = some (ptC (xs.getD q (edflt kc)) (n + ((7 * q : Nat) : Int)) (stc i k q)) := by
  unfold midC
  rw [List.getElem?_map, List.getElem?_range hq]
  rfl
theorem midC_0 (xs : List (Elem kc)) (n : Int) : midC xs n 0 0 = xs := by
  apply List.ext_getElem?
  intro q
  by_cases hq : q < xs.length
  · rw [midC_at xs n 0 0 hq, List.getElem?_eq_getElem hq]
    have e1 : stc 0 0 q = 0 := by
      rcases Nat.eq_zero_or_pos q with rfl | h
      · exact stc_eq 0 0
      · exact stc_gt h
    rw [e1, ptC_0, List.getD_eq_getElem?_getD, List.getElem?_eq_getElem hq]
    rfl
  · rw [List.getElem?_eq_none (by rw [midC_len]; omega), List.getElem?_eq_none (by omega)]
theorem midC_s (xs : List (Elem kc)) (n : Int) (i : Nat) : midC xs n i 7 = midC xs n (i + 1) 0 := by
  unfold midC
  apply List.map_congr_left
  intro q hq
  have : stc i 7 q = stc (i + 1) 0 q := by
    rcases Nat.lt_trichotomy q i with h | rfl | h
    · rw [stc_lt h, stc_lt (by omega)]
    · rw [stc_eq, stc_lt (by omega)]
    · rw [stc_gt h]
      rcases Nat.eq_or_lt_of_le h with h | h
      · rw [← h, Nat.succ_eq_add_one, stc_eq]
      · rw [stc_gt h]
  rw [this]
theorem midC_u (xs : List (Elem kc)) (n : Int) {i j c : Nat} {vs : List Value} (hi : i < xs.length) (h : putV kc c vs (ptC (xs.getD i (edflt kc)) (n + ((7 * i : Nat) : Int)) j) = ptC (xs.getD i (edflt kc)) (n + ((7 * i : Nat) : Int)) (j + 1)) :
    updR kc (midC xs n i j) i c vs = midC xs n i (j + 1) := by
  unfold updR
  apply List.ext_getElem?
  intro q
  rw [List.getElem?_set]
  by_cases hq : q < xs.length
  · rw [midC_at xs n i (j + 1) hq, midC_at xs n i j hq]
    by_cases h2 : i = q
    · subst h2
      rw [if_pos rfl, if_pos (by rw [midC_len]; exact hi), List.getD_eq_getElem?_getD, midC_at xs n i j hi, stc_eq, stc_eq]
      show some (putV kc c vs (ptC (xs.getD i (edflt kc)) (n + ((7 * i : Nat) : Int)) j)) = _
      rw [h]
    · rw [if_neg h2]
      have : stc i j q = stc i (j + 1) q := by
        rcases Nat.lt_trichotomy q i with h | rfl | h
        · rw [stc_lt h, stc_lt h]
        · exact absurd rfl h2
        · rw [stc_gt h, stc_gt h]
      rw [this]
  · rw [if_neg (by omega), List.getElem?_eq_none (by rw [midC_len]; omega), List.getElem?_eq_none (by rw [midC_len]; omega)]
theorem hdC_mid (xs : List (Elem kc)) (n : Int) : hdC n (midC xs n xs.length 0) = true := by
  refine allB_t fun q hq => ?_
  rw [midC_len] at hq
  rw [List.getD_eq_getElem?_getD, midC_at xs n xs.length 0 hq, stc_lt hq]
  exact mkC_pt _ _
noncomputable def E66c : Env := Eg.of Tryz.f66
noncomputable def G66c : Gk := gk [(142, g142)]
noncomputable def lp66c (n : Nat) : Code := (loopOf n (codeOf Tryz.f66)).getD .skip
noncomputable def ct66c (L : Lp) (R : Option Res → Prop) (n : Nat) : Kt := contOf E66c G66c L n (codeOf Tryz.f66) (endK E66c Tryz.f66.results.toList R)
noncomputable def rk66c (L : Lp) (R : Option Res → Prop) (n : Nat) (N : St → Prop) : Kt := rk (jof E66c (lp66c n)) N (ct66c L R n)
noncomputable def LOOP66c (L : Lp) (R : Option Res → Prop) (n : Nat) (st : St) : Prop := L (lp66c n) st (ct66c L R n)
theorem hg66c : HG Tryz.prog G66c := (hg_cons h142 hg_nil)
theorem okf66c : Ok Tryz.prog E66c := okg.of Tryz.f66
theorem e66c (L : Lp) (R : Option Res → Prop) (xs : List (Elem kc)) (n : Int) : (bodyP Eg G66c L Tryz.f66 [.ows 0, .val (.int .i64 n)] [.row kc xs] R) = (
    LOOP66c L R 2 { tm := [AV.ows 0, vI n, vJ, vJ, vJ, vI 0, vJ, vJ, vJ, vJ, vJ, vJ, vJ, vJ, vJ, vJ, vJ, vJ, vJ, vJ, vJ, vJ, vJ, vJ, vJ, vJ, vJ, vJ, vJ, vJ, vJ, vJ, vJ, vJ, vJ, vJ, vJ, vJ, vJ, vJ, vJ, vJ, vJ, vJ, vJ, vJ, vJ, vJ, vJ, vJ, vJ, vJ, vJ, vJ, vJ, vJ, vJ, vJ, vJ, vJ, vJ, vJ, vJ, vJ, vJ, vJ, vJ, vJ, vJ], ob := [(0, AO.row kc xs)], nx := 1000000, ps := [some 0] }) := by kernel_rfl
def st66c (xs : List (Elem kc)) (n i : Int) : St :=  ⟨[AV.ows 0, .val (.int .i64 n), vJ, vJ, vJ, .val (.int .i64 i), vJ, vJ, vJ, vJ, vJ, vJ, vJ, vJ, vJ, vJ, vJ, vJ, vJ, vJ, vJ, vJ, vJ, vJ, vJ, vJ, vJ, vJ, vJ, vJ, vJ, vJ, vJ, vJ, vJ, vJ, vJ, vJ, vJ, vJ, vJ, vJ, vJ, vJ, vJ, vJ, vJ, vJ, vJ, vJ, vJ, vJ, vJ, vJ, vJ, vJ, vJ, vJ, vJ, vJ, vJ, vJ, vJ, vJ, vJ, vJ, vJ, vJ, vJ], [(0, .row kc xs)], 1000000, [some 0]⟩
theorem b66c (L : Lp) (R : Option Res → Prop) (N : St → Prop) (xs : List (Elem kc)) (n i : Int) : (evP E66c G66c L (lp66c 2) (st66c xs n i) (rk66c L R 2 N)) = (
    br (decide (i < (↑xs.length : Int))) (br (inK n) (br (decide (0 ≤ i ∧ i < (↑xs.length : Int))) (br (decide (0 ≤ i ∧ i < (↑(updR kc xs i.toNat 0 [Value.string (mt n)]).length : Int))) (br (inK (IntKind.i64.wrap (IntKind.i64.wrap (n + 1) + 1))) (br (decide (0 ≤ i ∧ i < (↑(updR kc (updR kc xs i.toNat 0 [Value.string (mt n)]) i.toNat 1 [Value.int IntKind.i64 (IntKind.i64.wrap (n + 1))]).length : Int))) (br (decide (0 ≤ i ∧ i < (↑(updR kc (updR kc (updR kc xs i.toNat 0 [Value.string (mt n)]) i.toNat 1 [Value.int IntKind.i64 (IntKind.i64.wrap (n + 1))]) i.toNat 2 [Value.string (mt (IntKind.i64.wrap (IntKind.i64.wrap (n + 1) + 1)))]).length : Int))) (br (decide (0 ≤ i ∧ i < (↑(updR kc (updR kc (updR kc (updR kc xs i.toNat 0 [Value.string (mt n)]) i.toNat 1 [Value.int IntKind.i64 (IntKind.i64.wrap (n + 1))]) i.toNat 2 [Value.string (mt (IntKind.i64.wrap (IntKind.i64.wrap (n + 1) + 1)))]) i.toNat 27 [Value.int IntKind.i64 (IntKind.i64.wrap (IntKind.i64.wrap (IntKind.i64.wrap (n + 1) + 1) + 1))]).length : Int))) (br (decide (0 ≤ i ∧ i < (↑(updR kc (updR kc (updR kc (updR kc (updR kc xs i.toNat 0 [Value.string (mt n)]) i.toNat 1 [Value.int IntKind.i64 (IntKind.i64.wrap (n + 1))]) i.toNat 2 [Value.string (mt (IntKind.i64.wrap (IntKind.i64.wrap (n + 1) + 1)))]) i.toNat 27 [Value.int IntKind.i64 (IntKind.i64.wrap (IntKind.i64.wrap (IntKind.i64.wrap (n + 1) + 1) + 1))]) i.toNat 28 [Value.int IntKind.i64 (IntKind.i64.wrap (IntKind.i64.wrap (IntKind.i64.wrap (IntKind.i64.wrap (n + 1) + 1) + 1) + 1))]).length : Int))) (br (decide (0 ≤ i ∧ i < (↑(updR kc (updR kc (updR kc (updR kc (updR kc (updR kc xs i.toNat 0 [Value.string (mt n)]) i.toNat 1 [Value.int IntKind.i64 (IntKind.i64.wrap (n + 1))]) i.toNat 2 [Value.string (mt (IntKind.i64.wrap (IntKind.i64.wrap (n + 1) + 1)))]) i.toNat 27 [Value.int IntKind.i64 (IntKind.i64.wrap (IntKind.i64.wrap (IntKind.i64.wrap (n + 1) + 1) + 1))]) i.toNat 28 [Value.int IntKind.i64 (IntKind.i64.wrap (IntKind.i64.wrap (IntKind.i64.wrap (IntKind.i64.wrap (n + 1) + 1) + 1) + 1))]) i.toNat 29 [Value.int IntKind.i64 (IntKind.i64.wrap (IntKind.i64.wrap (IntKind.i64.wrap (IntKind.i64.wrap (IntKind.i64.wrap (n + 1) + 1) + 1) + 1) + 1))]).length : Int))) (N { tm := [AV.ows 0, vI (IntKind.i64.wrap (IntKind.i64.wrap (IntKind.i64.wrap (IntKind.i64.wrap (IntKind.i64.wrap (IntKind.i64.wrap (IntKind.i64.wrap (n + 1) + 1) + 1) + 1) + 1) + 1) + 1)), vJ, vJ, vJ, vI (IntKind.i64.wrap (i + 1)), vJ, vJ, vJ, vJ, vJ, vJ, vJ, vJ, vJ, vJ, vJ, vJ, vJ, vJ, vJ, vJ, vJ, vJ, vJ, vJ, vJ, vJ, vJ, vJ, vJ, vJ, vJ, vJ, vJ, vJ, vJ, vJ, vJ, vJ, vJ, vJ, vJ, vJ, vJ, vJ, vJ, vJ, vJ, vJ, vJ, vJ, vJ, vJ, vJ, vJ, vJ, vJ, vJ, vJ, vJ, vJ, vJ, vJ, vJ, vJ, vJ, vJ, vJ], ob := [(0, AO.row kc (updR kc (updR kc (updR kc (updR kc (updR kc (updR kc (updR kc xs i.toNat 0 [Value.string (mt n)]) i.toNat 1 [Value.int IntKind.i64 (IntKind.i64.wrap (n + 1))]) i.toNat 2 [Value.string (mt (IntKind.i64.wrap (IntKind.i64.wrap (n + 1) + 1)))]) i.toNat 27 [Value.int IntKind.i64 (IntKind.i64.wrap (IntKind.i64.wrap (IntKind.i64.wrap (n + 1) + 1) + 1))]) i.toNat 28 [Value.int IntKind.i64 (IntKind.i64.wrap (IntKind.i64.wrap (IntKind.i64.wrap (IntKind.i64.wrap (n + 1) + 1) + 1) + 1))]) i.toNat 29 [Value.int IntKind.i64 (IntKind.i64.wrap (IntKind.i64.wrap (IntKind.i64.wrap (IntKind.i64.wrap (IntKind.i64.wrap (n + 1) + 1) + 1) + 1) + 1))]) i.toNat 30 [Value.bool ((IntKind.i64.wrap (IntKind.i64.wrap (IntKind.i64.wrap (IntKind.i64.wrap (IntKind.i64.wrap (IntKind.i64.wrap (n + 1) + 1) + 1) + 1) + 1) + 1)).tmod 3 == 0)]))], nx := 1000000, ps := [some 0] }) False) False) False) False) False) False) False) False) False) (R (some { av := vI n, obs := [AO.row kc xs], outs := [some 0] }))) := by kernel_rfl
theorem h66c : G1Ok Tryz.prog 66 g66c := by
  intro args obs k h
  unfold g66c at h
  split at h
  · rename_i k n cx xs0
    split at h
    rotate_left
    · exact h.elim
    rename_i xs hx
    cases castE_inv hx
    obtain ⟨hp, h⟩ := br_and h
    simp only [inM, decide_eq_true_eq] at hp
    refine ⟨_, ctr_fn okg hg66c Tryz.func66 (by kernel_rfl) (by kernel_rfl) (by kernel_rfl) fun C => ?_, h⟩
    show bodyP Eg G66c _ Tryz.f66 [.ows 0, .val (.int .i64 n)] [.row kc xs] _
    rw [e66c]
    refine loopUp okf66c hg66c (fun i (a : List (Elem kc) × Int) => st66c a.1 a.2 i) xs.length (fun i a => a.1 = midC xs n i 0 ∧ a.2 = n + ((7 * i : Nat) : Int)) (fun N i ⟨ys, m⟩ hi ⟨hy, hm⟩ next => ?_) (xs, n) ⟨(midC_0 xs n).symm, by show n = _; omega⟩
    show evP E66c G66c _ (lp66c 2) (st66c ys m i) (rk66c _ _ 2 _)
    simp only at hy hm next
    have hyl : ys.length = xs.length := by rw [hy, midC_len]
    subst hm
    generalize hM : n + ((7 * i : Nat) : Int) = M at *
    have w1 : IntKind.i64.wrap (M + 1) = M + 1 := wrap_id (by omega) (by omega)
    have w2 : IntKind.i64.wrap (M + 1 + 1) = M + 2 := by rw [wrap_id (n := M + 1 + 1) (by omega) (by omega)]; omega
    have w3 : IntKind.i64.wrap (M + 2 + 1) = M + 3 := by rw [wrap_id (n := M + 2 + 1) (by omega) (by omega)]; omega
    have w4 : IntKind.i64.wrap (M + 3 + 1) = M + 4 := by rw [wrap_id (n := M + 3 + 1) (by omega) (by omega)]; omega
    have w5 : IntKind.i64.wrap (M + 4 + 1) = M + 5 := by rw [wrap_id (n := M + 4 + 1) (by omega) (by omega)]; omega
    have w6 : IntKind.i64.wrap (M + 5 + 1) = M + 6 := by rw [wrap_id (n := M + 5 + 1) (by omega) (by omega)]; omega
    have w7 : IntKind.i64.wrap (M + 6 + 1) = M + 7 := by rw [wrap_id (n := M + 6 + 1) (by omega) (by omega)]; omega
    rw [b66c, w1, w2, w3, w4, w5, w6, w7, Int.toNat_natCast]
    refine br_dec (fun h2 => ?_) (fun h2 => ?_)
    rotate_left
    · have hx2 : i = xs.length := by omega
      show _ = _
      rw [← hM, hy, hx2]
    have his : i < xs.length := by omega
    have u0 : updR kc ys i 0 [.string (mt M)] = midC xs n i 1 := by rw [hy, ← hM]; exact midC_u xs n his rfl
    have u1 : updR kc (midC xs n i 1) i 1 [.int .i64 (M + 1)] = midC xs n i 2 := by rw [← hM]; exact midC_u xs n his rfl
    have u2 : updR kc (midC xs n i 2) i 2 [.string (mt (M + 2))] = midC xs n i 3 := by rw [← hM]; exact midC_u xs n his rfl
    have u3 : updR kc (midC xs n i 3) i 27 [.int .i64 (M + 3)] = midC xs n i 4 := by rw [← hM]; exact midC_u xs n his rfl
    have u4 : updR kc (midC xs n i 4) i 28 [.int .i64 (M + 4)] = midC xs n i 5 := by rw [← hM]; exact midC_u xs n his rfl
    have u5 : updR kc (midC xs n i 5) i 29 [.int .i64 (M + 5)] = midC xs n i 6 := by rw [← hM]; exact midC_u xs n his rfl
    have u6 : updR kc (midC xs n i 6) i 30 [.bool ((M + 6).tmod 3 == 0)] = midC xs n i 7 := by rw [← hM]; exact midC_u xs n his rfl
    rw [u0, u1, u2, u3, u4, u5, u6]
    have bd : ∀ c, 0 ≤ (i : Int) ∧ (i : Int) < ((midC xs n i c).length : Int) := fun c => ⟨by omega, by rw [midC_len]; omega⟩
    refine br_t (inK_of (by omega) (by omega)) (br_yes ⟨by omega, by omega⟩ (br_yes (bd _) (br_t (inK_of (by omega) (by omega)) (br_yes (bd _) (br_yes (bd _) (br_yes (bd _) (br_yes (bd _) (br_yes (bd _) ?_))))))))
    rw [wrap_id (n := (i : Int) + 1) (by omega) (by omega)]
    exact next (by omega) (_, M + 7) ⟨midC_s xs n i, by show M + 7 = _; omega⟩
  · exact h.elim
noncomputable def E101 : Env := Eg.of Tryz.f101
noncomputable def G101 : Gk := gk [(142, g142)]
noncomputable def lp101 (n : Nat) : Code := (loopOf n (codeOf Tryz.f101)).getD .skip
noncomputable def ct101 (L : Lp) (R : Option Res → Prop) (n : Nat) : Kt := contOf E101 G101 L n (codeOf Tryz.f101) (endK E101 Tryz.f101.results.toList R)
noncomputable def rk101 (L : Lp) (R : Option Res → Prop) (n : Nat) (N : St → Prop) : Kt := rk (jof E101 (lp101 n)) N (ct101 L R n)
noncomputable def LOOP101 (L : Lp) (R : Option Res → Prop) (n : Nat) (st : St) : Prop := L (lp101 n) st (ct101 L R n)
theorem hg101 : HG Tryz.prog G101 := (hg_cons h142 hg_nil)
theorem okf101 : Ok Tryz.prog E101 := okg.of Tryz.f101
theorem e101 (L : Lp) (R : Option Res → Prop) (xs : List (Elem kc)) (n : Int) : (bodyP Eg G101 L Tryz.f101 [.rsl kc xs, .val (.int .i64 n)] [] R) = (
    LOOP101 L R 2 { tm := [AV.rsl kc xs, vI n, vJ, vJ, vJ, vI 0, vJ, vJ, vJ, vJ, vJ, vJ, vJ, vJ, vJ, vJ, vJ, vJ, vJ, vJ, vJ, vJ, vJ, vJ, vJ, vJ, vJ, vJ, vJ, vJ, vJ, vJ, vJ, vJ, vJ, vJ, vJ, vJ, vJ, vJ, vJ, vJ, vJ, vJ, vJ, vJ, vJ, vJ, vJ, vJ, vJ, vJ, vJ, vJ, vJ, vJ, vJ, vJ, vJ, vJ, vJ, vJ, vJ, vJ, vJ, vJ, vJ, vJ, vJ, vJ, vJ, vJ, vJ, vJ, vJ, vJ, vJ, vJ, vJ, vJ, vJ, vJ, vJ], ob := [], nx := 1000000, ps := [] }) := by kernel_rfl
def st101 (xs : List (Elem kc)) (n i : Int) : St :=  ⟨[AV.rsl kc xs, .val (.int .i64 n), vJ, vJ, vJ, .val (.int .i64 i), vJ, vJ, vJ, vJ, vJ, vJ, vJ, vJ, vJ, vJ, vJ, vJ, vJ, vJ, vJ, vJ, vJ, vJ, vJ, vJ, vJ, vJ, vJ, vJ, vJ, vJ, vJ, vJ, vJ, vJ, vJ, vJ, vJ, vJ, vJ, vJ, vJ, vJ, vJ, vJ, vJ, vJ, vJ, vJ, vJ, vJ, vJ, vJ, vJ, vJ, vJ, vJ, vJ, vJ, vJ, vJ, vJ, vJ, vJ, vJ, vJ, vJ, vJ, vJ, vJ, vJ, vJ, vJ, vJ, vJ, vJ, vJ, vJ, vJ, vJ, vJ, vJ], [], 1000000, []⟩
theorem b101 (L : Lp) (R : Option Res → Prop) (N : St → Prop) (xs : List (Elem kc)) (n i : Int) : (evP E101 G101 L (lp101 2) (st101 xs n i) (rk101 L R 2 N)) = (
    br (decide (i < (↑xs.length : Int))) (br (decide (0 ≤ i ∧ i < (↑xs.length : Int))) (br (inK n) (br (!strEq (xs.getD i.toNat (edflt kc)).fst (mt n)) (R (some { av := vI (-1), obs := [], outs := [] })) (br (decide (0 ≤ i ∧ i < (↑xs.length : Int))) (br ((xs.getD i.toNat (edflt kc)).snd.fst != IntKind.i64.wrap (n + 1)) (R (some { av := vI (-1), obs := [], outs := [] })) (br (decide (0 ≤ i ∧ i < (↑xs.length : Int))) (br (inK (IntKind.i64.wrap (IntKind.i64.wrap (n + 1) + 1))) (br (!strEq (xs.getD i.toNat (edflt kc)).snd.snd.fst (mt (IntKind.i64.wrap (IntKind.i64.wrap (n + 1) + 1)))) (R (some { av := vI (-1), obs := [], outs := [] })) (br (decide (0 ≤ i ∧ i < (↑xs.length : Int))) (br ((xs.getD i.toNat (edflt kc)).snd.snd.snd.snd.snd.snd.snd.snd.snd.snd.snd.snd.snd.snd.snd.snd.snd.snd.snd.snd.snd.snd.snd.snd.snd.snd.snd.fst != IntKind.i64.wrap (IntKind.i64.wrap (IntKind.i64.wrap (n + 1) + 1) + 1)) (R (some { av := vI (-1), obs := [], outs := [] })) (br (decide (0 ≤ i ∧ i < (↑xs.length : Int))) (br ((xs.getD i.toNat (edflt kc)).snd.snd.snd.snd.snd.snd.snd.snd.snd.snd.snd.snd.snd.snd.snd.snd.snd.snd.snd.snd.snd.snd.snd.snd.snd.snd.snd.snd.fst != IntKind.i64.wrap (IntKind.i64.wrap (IntKind.i64.wrap (IntKind.i64.wrap (n + 1) + 1) + 1) + 1)) (R (some { av := vI (-1), obs := [], outs := [] })) (br (decide (0 ≤ i ∧ i < (↑xs.length : Int))) (br ((xs.getD i.toNat (edflt kc)).snd.snd.snd.snd.snd.snd.snd.snd.snd.snd.snd.snd.snd.snd.snd.snd.snd.snd.snd.snd.snd.snd.snd.snd.snd.snd.snd.snd.snd.fst != IntKind.i64.wrap (IntKind.i64.wrap (IntKind.i64.wrap (IntKind.i64.wrap (IntKind.i64.wrap (n + 1) + 1) + 1) + 1) + 1)) (R (some { av := vI (-1), obs := [], outs := [] })) (br (decide (0 ≤ i ∧ i < (↑xs.length : Int))) (br (!(xs.getD i.toNat (edflt kc)).snd.snd.snd.snd.snd.snd.snd.snd.snd.snd.snd.snd.snd.snd.snd.snd.snd.snd.snd.snd.snd.snd.snd.snd.snd.snd.snd.snd.snd.snd.fst == ((IntKind.i64.wrap (IntKind.i64.wrap (IntKind.i64.wrap (IntKind.i64.wrap (IntKind.i64.wrap (IntKind.i64.wrap (n + 1) + 1) + 1) + 1) + 1) + 1)).tmod 3 == 0)) (R (some { av := vI (-1), obs := [], outs := [] })) (N { tm := [AV.rsl kc xs, vI (IntKind.i64.wrap (IntKind.i64.wrap (IntKind.i64.wrap (IntKind.i64.wrap (IntKind.i64.wrap (IntKind.i64.wrap (IntKind.i64.wrap (n + 1) + 1) + 1) + 1) + 1) + 1) + 1)), vJ, vJ, vJ, vI (IntKind.i64.wrap (i + 1)), vJ, vJ, vJ, vJ, vJ, vJ, vJ, vJ, vJ, vJ, vJ, vJ, vJ, vJ, vJ, vJ, vJ, vJ, vJ, vJ, vJ, vJ, vJ, vJ, vJ, vJ, vJ, vJ, vJ, vJ, vJ, vJ, vJ, vJ, vJ, vJ, vJ, vJ, vJ, vJ, vJ, vJ, vJ, vJ, vJ, vJ, vJ, vJ, vJ, vJ, vJ, vJ, vJ, vJ, vJ, vJ, vJ, vJ, vJ, vJ, vJ, vJ, vJ, vJ, vJ, vJ, vJ, vJ, vJ, vJ, vJ, vJ, vJ, vJ, vJ, vJ, vJ], ob := [], nx := 1000000, ps := [] })) False)) False)) False)) False)) False) False)) False)) False) False) (R (some { av := vI n, obs := [], outs := [] }))) := by kernel_rfl
theorem h101 : G1Ok Tryz.prog 101 g101 := by
  intro args obs k h
  unfold g101 at h
  split at h
  · rename_i k cx xs0 n
    split at h
    rotate_left
    · exact h.elim
    rename_i xs hx
    cases castE_inv hx
    obtain ⟨hp, hh, h⟩ := brb2 h
    simp only [inM, decide_eq_true_eq] at hp
    refine ⟨_, ctr_fn okg hg101 Tryz.func101 (by kernel_rfl) (by kernel_rfl) (by kernel_rfl) fun C => ?_, h⟩
    show bodyP Eg G101 _ Tryz.f101 [.rsl kc xs, .val (.int .i64 n)] [] _
    rw [e101]
    refine loopUp okf101 hg101 (fun i m => st101 xs m i) xs.length (fun i m => m = n + ((7 * i : Nat) : Int)) (fun N i M hi hM next => ?_) n (by omega)
    show evP E101 G101 _ (lp101 2) (st101 xs M i) (rk101 _ _ 2 _)
    have w1 : IntKind.i64.wrap (M + 1) = M + 1 := wrap_id (by omega) (by omega)
    have w2 : IntKind.i64.wrap (M + 1 + 1) = M + 2 := by rw [wrap_id (n := M + 1 + 1) (by omega) (by omega)]; omega
    have w3 : IntKind.i64.wrap (M + 2 + 1) = M + 3 := by rw [wrap_id (n := M + 2 + 1) (by omega) (by omega)]; omega
    have w4 : IntKind.i64.wrap (M + 3 + 1) = M + 4 := by rw [wrap_id (n := M + 3 + 1) (by omega) (by omega)]; omega
    have w5 : IntKind.i64.wrap (M + 4 + 1) = M + 5 := by rw [wrap_id (n := M + 4 + 1) (by omega) (by omega)]; omega
    have w6 : IntKind.i64.wrap (M + 5 + 1) = M + 6 := by rw [wrap_id (n := M + 5 + 1) (by omega) (by omega)]; omega
    have w7 : IntKind.i64.wrap (M + 6 + 1) = M + 7 := by rw [wrap_id (n := M + 6 + 1) (by omega) (by omega)]; omega
    rw [b101, w1, w2, w3, w4, w5, w6, w7, Int.toNat_natCast]
    refine br_dec (fun h2 => ?_) (fun h2 => ?_)
    rotate_left
    · show _ = _
      rw [hM, show i = xs.length by omega]
    have his : i < xs.length := by omega
    have hE := allB_at hh his
    rw [← hM] at hE
    unfold mkC at hE
    simp only [Bool.and_eq_true] at hE
    obtain ⟨q0, q1, q2, q3, q4, q5, q6⟩ := hE
    have bd : 0 ≤ (i : Int) ∧ (i : Int) < (xs.length : Int) := ⟨by omega, h2⟩
    rw [wrap_id (n := (i : Int) + 1) (by omega) (by omega)]
    exact br_yes bd (br_t (inK_of (by omega) (by omega)) (br_f (by rw [q0]; rfl) (br_yes bd (br_f (by rw [bne, q1]; rfl) (br_yes bd (br_t (inK_of (by omega) (by omega)) (br_f (by rw [q2]; rfl) (br_yes bd (br_f (by rw [bne, q3]; rfl) (br_yes bd (br_f (by rw [bne, q4]; rfl) (br_yes bd (br_f (by rw [bne, q5]; rfl) (br_yes bd (br_f (by rw [q6]; rfl) (next (by omega) (M + 7) (by omega)))))))))))))))))
  · exact h.elim
end Go.Proofs.YtkjnijddbiconaaGreatDoor.Ev
