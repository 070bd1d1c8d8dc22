/- Contracts for books: sizes, copies, equality. -/
import Derived.Test.YtljilcingbohkaaDoorD8
namespace Go.Proofs.YtljilcingbohkaaDoor.Ev
open Go
set_option linter.unusedVariables false
set_option linter.unusedSimpArgs false
set_option maxRecDepth 100000
abbrev s8 (a0 a1 a2 a3 a4 a5 a6 a7 : ByteArray) : AV := .agg [.val (.string a0), .val (.string a1), .val (.string a2), .val (.string a3), .val (.string a4), .val (.string a5), .val (.string a6), .val (.string a7)]
def sz8 (a0 a1 a2 a3 a4 a5 a6 a7 : ByteArray) : Nat := a0.size + a1.size + a2.size + a3.size + a4.size + a5.size + a6.size + a7.size
def in8 (a0 a1 a2 a3 a4 a5 a6 a7 : ByteArray) : Bool := inS a0 && inS a1 && inS a2 && inS a3 && inS a4 && inS a5 && inS a6 && inS a7
def g108 : G1
  | [.agg [.val (.string a0), .val (.string a1), .val (.string a2), .val (.string a3), .val (.string a4), .val (.string a5), .val (.string a6), .val (.string a7)], .val (.int .i64 l)], [], k =>
    br (in8 a0 a1 a2 a3 a4 a5 a6 a7 && inL l) (k ⟨.val (.int .i64 (szR l (sz8 a0 a1 a2 a3 a4 a5 a6 a7))), [], []⟩) False
  | _, _, _ => False
abbrev kb : List CK := [.str, .int .i64, .str, .str, .str, .str, .str, .str, .str, .str, .str]
def szB (e : Elem kb) : Nat := e.1.size + e.2.2.1.size + sz8 e.2.2.2.1 e.2.2.2.2.1 e.2.2.2.2.2.1 e.2.2.2.2.2.2.1 e.2.2.2.2.2.2.2.1 e.2.2.2.2.2.2.2.2.1 e.2.2.2.2.2.2.2.2.2.1 e.2.2.2.2.2.2.2.2.2.2.1
def inB (e : Elem kb) : Bool := inS e.1 && inS e.2.2.1 && in8 e.2.2.2.1 e.2.2.2.2.1 e.2.2.2.2.2.1 e.2.2.2.2.2.2.1 e.2.2.2.2.2.2.2.1 e.2.2.2.2.2.2.2.2.1 e.2.2.2.2.2.2.2.2.2.1 e.2.2.2.2.2.2.2.2.2.2.1
def g90 : G1
  | [.agg [.val (.string b), .val (.int .i64 n), .val (.string c), .val (.string a0), .val (.string a1), .val (.string a2), .val (.string a3), .val (.string a4), .val (.string a5), .val (.string a6), .val (.string a7)], .val (.int .i64 l)], [], k =>
    br (inB (b, n, c, a0, a1, a2, a3, a4, a5, a6, a7, ()) && inL l) (k ⟨.val (.int .i64 (szR l (szB (b, n, c, a0, a1, a2, a3, a4, a5, a6, a7, ())))), [], []⟩) False
  | _, _, _ => False
def szBs (xs : List (Elem kb)) : Nat := xs.length + (xs.map szB).sum
def inBs (xs : List (Elem kb)) : Bool := decide (xs.length ≤ 9223372036854775807) && xs.all inB
def g60 : G1
  | [.rsl [.str, .int .i64, .str, .str, .str, .str, .str, .str, .str, .str, .str] xs, .val (.int .i64 l)], [], k => br (inBs xs && inL l) (k ⟨.val (.int .i64 (szR l (szBs xs))), [], []⟩) False
  | _, _, _ => False
def g32 : G1
  | [.agg [.rsl [.str, .int .i64, .str, .str, .str, .str, .str, .str, .str, .str, .str] xs], .val (.int .i64 l)], [], k => br (inBs xs && inL l) (k ⟨.val (.int .i64 (szR l (szBs xs))), [], []⟩) False
  | _, _, _ => False
noncomputable def E108 : Env := E0.of Tryd.f108
noncomputable def G108 : Gk := gk []
noncomputable def lp108 (n : Nat) : Code := (loopOf n (codeOf Tryd.f108)).getD .skip
noncomputable def ct108 (L : Lp) (R : Option Res → Prop) (n : Nat) : Kt := contOf E108 G108 L n (codeOf Tryd.f108) (endK E108 Tryd.f108.results.toList R)
noncomputable def rk108 (L : Lp) (R : Option Res → Prop) (n : Nat) (N : St → Prop) : Kt := rk (jof E108 (lp108 n)) N (ct108 L R n)
noncomputable def LOOP108 (L : Lp) (R : Option Res → Prop) (n : Nat) (st : St) : Prop := L (lp108 n) st (ct108 L R n)
theorem hg108 : HG Tryd.prog G108 := hg_nil
theorem okf108 : Ok Tryd.prog E108 := ok0.of Tryd.f108
theorem e108 (L : Lp) (R : Option Res → Prop) (a0 a1 a2 a3 a4 a5 a6 a7 : ByteArray) (l : Int) : (bodyP E0 G108 L Tryd.f108 [s8 a0 a1 a2 a3 a4 a5 a6 a7, .val (.int .i64 l)] [] R) = (
    LOOP108 L R 2 { tm := [AV.agg [vS a0, vS a1, vS a2, vS a3, vS a4, vS a5, vS a6, vS a7], vI l, AV.ptr 0 0, vU, vI 0, vI 0, vJ, vJ, vJ, vJ, vJ, vJ, vJ, vJ, vJ, vJ, vJ, vJ, vU], ob := [(0, AO.box [vS a0, vS a1, vS a2, vS a3, vS a4, vS a5, vS a6, vS a7])], nx := 1000000, ps := [] }) := by kernel_rfl
def st108 (a0 a1 a2 a3 a4 a5 a6 a7 : ByteArray) (i l : Int) : St :=  ⟨[AV.agg [vS a0, vS a1, vS a2, vS a3, vS a4, vS a5, vS a6, vS a7], .val (.int .i64 l), AV.ptr 0 0, vU, vI 0, .val (.int .i64 i), vJ, vJ, vJ, vJ, vJ, vJ, vJ, vJ, vJ, vJ, vJ, vJ, vU], [(0, AO.box [vS a0, vS a1, vS a2, vS a3, vS a4, vS a5, vS a6, vS a7])], 1000000, []⟩
theorem b108_0 (L : Lp) (R : Option Res → Prop) (N : St → Prop) (a0 a1 a2 a3 a4 a5 a6 a7 : ByteArray) (l : Int) : (evP E108 G108 L (lp108 2) (st108 a0 a1 a2 a3 a4 a5 a6 a7 0 l) (rk108 L R 2 N)) = (
    br (decide (IntKind.i64.wrap (l - (↑a0.size : Int)) < 0)) (R (some { av := vI (-1), obs := [], outs := [] })) (N { tm := [AV.agg [vS a0, vS a1, vS a2, vS a3, vS a4, vS a5, vS a6, vS a7], vI (IntKind.i64.wrap (l - (↑a0.size : Int))), AV.ptr 0 0, vU, vI 0, vI 1, vJ, vJ, vJ, vJ, vJ, vJ, vJ, vJ, vJ, vJ, vJ, vJ, vU], ob := [(0, AO.box [vS a0, vS a1, vS a2, vS a3, vS a4, vS a5, vS a6, vS a7])], nx := 1000000, ps := [] })) := by kernel_rfl
theorem b108_1 (L : Lp) (R : Option Res → Prop) (N : St → Prop) (a0 a1 a2 a3 a4 a5 a6 a7 : ByteArray) (l : Int) : (evP E108 G108 L (lp108 2) (st108 a0 a1 a2 a3 a4 a5 a6 a7 1 l) (rk108 L R 2 N)) = (
    br (decide (IntKind.i64.wrap (l - (↑a1.size : Int)) < 0)) (R (some { av := vI (-1), obs := [], outs := [] })) (N { tm := [AV.agg [vS a0, vS a1, vS a2, vS a3, vS a4, vS a5, vS a6, vS a7], vI (IntKind.i64.wrap (l - (↑a1.size : Int))), AV.ptr 0 0, vU, vI 0, vI 2, vJ, vJ, vJ, vJ, vJ, vJ, vJ, vJ, vJ, vJ, vJ, vJ, vU], ob := [(0, AO.box [vS a0, vS a1, vS a2, vS a3, vS a4, vS a5, vS a6, vS a7])], nx := 1000000, ps := [] })) := by kernel_rfl
theorem b108_2 (L : Lp) (R : Option Res → Prop) (N : St → Prop) (a0 a1 a2 a3 a4 a5 a6 a7 : ByteArray) (l : Int) : (evP E108 G108 L (lp108 2) (st108 a0 a1 a2 a3 a4 a5 a6 a7 2 l) (rk108 L R 2 N)) = (
    br (decide (IntKind.i64.wrap (l - (↑a2.size : Int)) < 0)) (R (some { av := vI (-1), obs := [], outs := [] })) (N { tm := [AV.agg [vS a0, vS a1, vS a2, vS a3, vS a4, vS a5, vS a6, vS a7], vI (IntKind.i64.wrap (l - (↑a2.size : Int))), AV.ptr 0 0, vU, vI 0, vI 3, vJ, vJ, vJ, vJ, vJ, vJ, vJ, vJ, vJ, vJ, vJ, vJ, vU], ob := [(0, AO.box [vS a0, vS a1, vS a2, vS a3, vS a4, vS a5, vS a6, vS a7])], nx := 1000000, ps := [] })) := by kernel_rfl
theorem b108_3 (L : Lp) (R : Option Res → Prop) (N : St → Prop) (a0 a1 a2 a3 a4 a5 a6 a7 : ByteArray) (l : Int) : (evP E108 G108 L (lp108 2) (st108 a0 a1 a2 a3 a4 a5 a6 a7 3 l) (rk108 L R 2 N)) = (
    br (decide (IntKind.i64.wrap (l - (↑a3.size : Int)) < 0)) (R (some { av := vI (-1), obs := [], outs := [] })) (N { tm := [AV.agg [vS a0, vS a1, vS a2, vS a3, vS a4, vS a5, vS a6, vS a7], vI (IntKind.i64.wrap (l - (↑a3.size : Int))), AV.ptr 0 0, vU, vI 0, vI 4, vJ, vJ, vJ, vJ, vJ, vJ, vJ, vJ, vJ, vJ, vJ, vJ, vU], ob := [(0, AO.box [vS a0, vS a1, vS a2, vS a3, vS a4, vS a5, vS a6, vS a7])], nx := 1000000, ps := [] })) := by kernel_rfl
theorem b108_4 (L : Lp) (R : Option Res → Prop) (N : St → Prop) (a0 a1 a2 a3 a4 a5 a6 a7 : ByteArray) (l : Int) : (evP E108 G108 L (lp108 2) (st108 a0 a1 a2 a3 a4 a5 a6 a7 4 l) (rk108 L R 2 N)) = (
    br (decide (IntKind.i64.wrap (l - (↑a4.size : Int)) < 0)) (R (some { av := vI (-1), obs := [], outs := [] })) (N { tm := [AV.agg [vS a0, vS a1, vS a2, vS a3, vS a4, vS a5, vS a6, vS a7], vI (IntKind.i64.wrap (l - (↑a4.size : Int))), AV.ptr 0 0, vU, vI 0, vI 5, vJ, vJ, vJ, vJ, vJ, vJ, vJ, vJ, vJ, vJ, vJ, vJ, vU], ob := [(0, AO.box [vS a0, vS a1, vS a2, vS a3, vS a4, vS a5, vS a6, vS a7])], nx := 1000000, ps := [] })) := by kernel_rfl
theorem b108_5 (L : Lp) (R : Option Res → Prop) (N : St → Prop) (a0 a1 a2 a3 a4 a5 a6 a7 : ByteArray) (l : Int) : (evP E108 G108 L (lp108 2) (st108 a0 a1 a2 a3 a4 a5 a6 a7 5 l) (rk108 L R 2 N)) = (
    br (decide (IntKind.i64.wrap (l - (↑a5.size : Int)) < 0)) (R (some { av := vI (-1), obs := [], outs := [] })) (N { tm := [AV.agg [vS a0, vS a1, vS a2, vS a3, vS a4, vS a5, vS a6, vS a7], vI (IntKind.i64.wrap (l - (↑a5.size : Int))), AV.ptr 0 0, vU, vI 0, vI 6, vJ, vJ, vJ, vJ, vJ, vJ, vJ, vJ, vJ, vJ, vJ, vJ, vU], ob := [(0, AO.box [vS a0, vS a1, vS a2, vS a3, vS a4, vS a5, vS a6, vS a7])], nx := 1000000, ps := [] })) := by kernel_rfl
theorem b108_6 (L : Lp) (R : Option Res → Prop) (N : St → Prop) (a0 a1 a2 a3 a4 a5 a6 a7 : ByteArray) (l : Int) : (evP E108 G108 L (lp108 2) (st108 a0 a1 a2 a3 a4 a5 a6 a7 6 l) (rk108 L R 2 N)) = (
    br (decide (IntKind.i64.wrap (l - (↑a6.size : Int)) < 0)) (R (some { av := vI (-1), obs := [], outs := [] })) (N { tm := [AV.agg [vS a0, vS a1, vS a2, vS a3, vS a4, vS a5, vS a6, vS a7], vI (IntKind.i64.wrap (l - (↑a6.size : Int))), AV.ptr 0 0, vU, vI 0, vI 7, vJ, vJ, vJ, vJ, vJ, vJ, vJ, vJ, vJ, vJ, vJ, vJ, vU], ob := [(0, AO.box [vS a0, vS a1, vS a2, vS a3, vS a4, vS a5, vS a6, vS a7])], nx := 1000000, ps := [] })) := by kernel_rfl
theorem b108_7 (L : Lp) (R : Option Res → Prop) (N : St → Prop) (a0 a1 a2 a3 a4 a5 a6 a7 : ByteArray) (l : Int) : (evP E108 G108 L (lp108 2) (st108 a0 a1 a2 a3 a4 a5 a6 a7 7 l) (rk108 L R 2 N)) = (
    br (decide (IntKind.i64.wrap (l - (↑a7.size : Int)) < 0)) (R (some { av := vI (-1), obs := [], outs := [] })) (N { tm := [AV.agg [vS a0, vS a1, vS a2, vS a3, vS a4, vS a5, vS a6, vS a7], vI (IntKind.i64.wrap (l - (↑a7.size : Int))), AV.ptr 0 0, vU, vI 0, vI 8, vJ, vJ, vJ, vJ, vJ, vJ, vJ, vJ, vJ, vJ, vJ, vJ, vU], ob := [(0, AO.box [vS a0, vS a1, vS a2, vS a3, vS a4, vS a5, vS a6, vS a7])], nx := 1000000, ps := [] })) := by kernel_rfl
theorem b108_8 (L : Lp) (R : Option Res → Prop) (N : St → Prop) (a0 a1 a2 a3 a4 a5 a6 a7 : ByteArray) (l : Int) : (evP E108 G108 L (lp108 2) (st108 a0 a1 a2 a3 a4 a5 a6 a7 8 l) (rk108 L R 2 N)) = (
    R (some { av := vI l, obs := [], outs := [] })) := by kernel_rfl
def pre8 (a0 a1 a2 a3 a4 a5 a6 a7 : ByteArray) (i : Nat) : Nat := (([a0, a1, a2, a3, a4, a5, a6, a7].take i).map (·.size)).sum
theorem h108 : G1Ok Tryd.prog 108 g108 := by
  intro args obs k h
  unfold g108 at h
  split at h
  · rename_i k a0 a1 a2 a3 a4 a5 a6 a7 l
    obtain ⟨hp, h⟩ := br_and h
    simp only [in8, inS, inL, Bool.and_eq_true, decide_eq_true_eq] at hp
    obtain ⟨⟨⟨⟨⟨⟨⟨⟨p0, p1⟩, p2⟩, p3⟩, p4⟩, p5⟩, p6⟩, p7⟩, pl⟩ := hp
    refine ⟨_, ctr_fn ok0 hg108 Tryd.func108 (by kernel_rfl) (by kernel_rfl) (by kernel_rfl) fun C => ?_, h⟩
    rw [e108]
    exact loopR okf108 hg108 (ι := {p : Nat × Int // p.1 ≤ 8 ∧ 0 ≤ p.2 ∧ p.2 = l - pre8 a0 a1 a2 a3 a4 a5 a6 a7 p.1}) (fun p => st108 a0 a1 a2 a3 a4 a5 a6 a7 p.1.1 p.1.2) (fun p => 8 - p.1.1) (fun ⟨(i, m), h0, h1, h2⟩ => by
      show evP E108 G108 _ (lp108 2) (st108 a0 a1 a2 a3 a4 a5 a6 a7 i m) (rk108 _ _ 2 _)
      simp only at h0 h1 h2
      have neg : ∀ (a : ByteArray), a.size ≤ 9223372036854775807 → pre8 a0 a1 a2 a3 a4 a5 a6 a7 i + a.size ≤ sz8 a0 a1 a2 a3 a4 a5 a6 a7 → decide (IntKind.i64.wrap (m - (a.size : Int)) < 0) = true →
          (some ⟨.val (.int .i64 (-1)), [], []⟩ : Option Res) = some ⟨.val (.int .i64 (szR l (sz8 a0 a1 a2 a3 a4 a5 a6 a7))), [], []⟩ := by
        intro a ha hle h3
        rw [wrap_id (n := m - (a.size : Int)) (by omega) (by omega)] at h3
        simp only [decide_eq_true_eq] at h3
        have : szR l (sz8 a0 a1 a2 a3 a4 a5 a6 a7) = -1 := by unfold szR; rw [if_neg (by omega)]
        rw [this]
      have pos : ∀ (a : ByteArray), a.size ≤ 9223372036854775807 → pre8 a0 a1 a2 a3 a4 a5 a6 a7 (i + 1) = pre8 a0 a1 a2 a3 a4 a5 a6 a7 i + a.size → i < 8 → decide (IntKind.i64.wrap (m - (a.size : Int)) < 0) = false →
          ∃ j : {p : Nat × Int // p.1 ≤ 8 ∧ 0 ≤ p.2 ∧ p.2 = l - pre8 a0 a1 a2 a3 a4 a5 a6 a7 p.1}, st108 a0 a1 a2 a3 a4 a5 a6 a7 ((i + 1 : Nat) : Int) (IntKind.i64.wrap (m - (a.size : Int))) = st108 a0 a1 a2 a3 a4 a5 a6 a7 j.1.1 j.1.2 ∧ 8 - j.1.1 < 8 - i := by
        intro a ha hs hi h3
        have hw := wrap_id (n := m - (a.size : Int)) (by omega) (by omega)
        rw [hw] at h3 ⊢
        simp only [decide_eq_false_iff_not] at h3
        exact ⟨⟨(i + 1, m - a.size), by show i + 1 ≤ 8; omega, by show 0 ≤ m - (a.size : Int); omega, by show m - (a.size : Int) = l - (pre8 a0 a1 a2 a3 a4 a5 a6 a7 (i + 1) : Nat); omega⟩, rfl, by show 8 - (i + 1) < 8 - i; omega⟩
      have cs : i = 0 ∨ i = 1 ∨ i = 2 ∨ i = 3 ∨ i = 4 ∨ i = 5 ∨ i = 6 ∨ i = 7 ∨ i = 8 := by omega
      rcases cs with rfl | rfl | rfl | rfl | rfl | rfl | rfl | rfl | rfl
      · show evP E108 G108 _ (lp108 2) (st108 a0 a1 a2 a3 a4 a5 a6 a7 0 m) (rk108 _ _ 2 _)
        rw [b108_0]
        exact br_intro (fun h3 => neg a0 p0 (by simp [pre8, sz8]; omega) h3) (fun h3 => pos a0 p0 (by simp [pre8]) (by omega) h3)
      · show evP E108 G108 _ (lp108 2) (st108 a0 a1 a2 a3 a4 a5 a6 a7 1 m) (rk108 _ _ 2 _)
        rw [b108_1]
        exact br_intro (fun h3 => neg a1 p1 (by simp [pre8, sz8]; omega) h3) (fun h3 => pos a1 p1 (by simp [pre8]) (by omega) h3)
      · show evP E108 G108 _ (lp108 2) (st108 a0 a1 a2 a3 a4 a5 a6 a7 2 m) (rk108 _ _ 2 _)
        rw [b108_2]
        exact br_intro (fun h3 => neg a2 p2 (by simp [pre8, sz8]; omega) h3) (fun h3 => pos a2 p2 (by simp [pre8]; omega) (by omega) h3)
      · show evP E108 G108 _ (lp108 2) (st108 a0 a1 a2 a3 a4 a5 a6 a7 3 m) (rk108 _ _ 2 _)
        rw [b108_3]
        exact br_intro (fun h3 => neg a3 p3 (by simp [pre8, sz8]; omega) h3) (fun h3 => pos a3 p3 (by simp [pre8]; omega) (by omega) h3)
      · show evP E108 G108 _ (lp108 2) (st108 a0 a1 a2 a3 a4 a5 a6 a7 4 m) (rk108 _ _ 2 _)
        rw [b108_4]
        exact br_intro (fun h3 => neg a4 p4 (by simp [pre8, sz8]; omega) h3) (fun h3 => pos a4 p4 (by simp [pre8]; omega) (by omega) h3)
      · show evP E108 G108 _ (lp108 2) (st108 a0 a1 a2 a3 a4 a5 a6 a7 5 m) (rk108 _ _ 2 _)
        rw [b108_5]
        exact br_intro (fun h3 => neg a5 p5 (by simp [pre8, sz8]; omega) h3) (fun h3 => pos a5 p5 (by simp [pre8]; omega) (by omega) h3)
      · show evP E108 G108 _ (lp108 2) (st108 a0 a1 a2 a3 a4 a5 a6 a7 6 m) (rk108 _ _ 2 _)
        rw [b108_6]
        exact br_intro (fun h3 => neg a6 p6 (by simp [pre8, sz8]; omega) h3) (fun h3 => pos a6 p6 (by simp [pre8]; omega) (by omega) h3)
      · show evP E108 G108 _ (lp108 2) (st108 a0 a1 a2 a3 a4 a5 a6 a7 7 m) (rk108 _ _ 2 _)
        rw [b108_7]
        exact br_intro (fun h3 => neg a7 p7 (by simp [pre8, sz8]; omega) h3) (fun h3 => pos a7 p7 (by simp [pre8]; omega) (by omega) h3)
      · show evP E108 G108 _ (lp108 2) (st108 a0 a1 a2 a3 a4 a5 a6 a7 8 m) (rk108 _ _ 2 _)
        rw [b108_8]
        show _ = _
        have e : pre8 a0 a1 a2 a3 a4 a5 a6 a7 8 = sz8 a0 a1 a2 a3 a4 a5 a6 a7 := by simp [pre8, sz8]; omega
        have : szR l (sz8 a0 a1 a2 a3 a4 a5 a6 a7) = m := by unfold szR; rw [if_pos (by omega)]; omega
        rw [this]) ⟨(0, l), by simp, pl.1, by simp [pre8]⟩
  · exact h.elim
noncomputable def E90 : Env := E0.of Tryd.f90
noncomputable def G90 : Gk := gk [(108, g108)]
noncomputable def lp90 (n : Nat) : Code := (loopOf n (codeOf Tryd.f90)).getD .skip
noncomputable def ct90 (L : Lp) (R : Option Res → Prop) (n : Nat) : Kt := contOf E90 G90 L n (codeOf Tryd.f90) (endK E90 Tryd.f90.results.toList R)
noncomputable def rk90 (L : Lp) (R : Option Res → Prop) (n : Nat) (N : St → Prop) : Kt := rk (jof E90 (lp90 n)) N (ct90 L R n)
noncomputable def LOOP90 (L : Lp) (R : Option Res → Prop) (n : Nat) (st : St) : Prop := L (lp90 n) st (ct90 L R n)
theorem hg90 : HG Tryd.prog G90 := (hg_cons h108 hg_nil)
theorem okf90 : Ok Tryd.prog E90 := ok0.of Tryd.f90
theorem e90 (L : Lp) (R : Option Res → Prop) (b c a0 a1 a2 a3 a4 a5 a6 a7 : ByteArray) (n l : Int) : (bodyP E0 G90 L Tryd.f90 [.agg [.val (.string b), .val (.int .i64 n), .val (.string c), .val (.string a0), .val (.string a1), .val (.string a2), .val (.string a3), .val (.string a4), .val (.string a5), .val (.string a6), .val (.string a7)], .val (.int .i64 l)] [] R) = (
    br (decide (IntKind.i64.wrap (l - (↑b.size : Int)) < 0)) (R (some { av := vI (-1), obs := [], outs := [] })) (br (decide (IntKind.i64.wrap (IntKind.i64.wrap (l - (↑b.size : Int)) - (↑c.size : Int)) < 0)) (R (some { av := vI (-1), obs := [], outs := [] })) (br (in8 a0 a1 a2 a3 a4 a5 a6 a7 && inL (IntKind.i64.wrap (IntKind.i64.wrap (l - (↑b.size : Int)) - (↑c.size : Int)))) (br (decide (szR (IntKind.i64.wrap (IntKind.i64.wrap (l - (↑b.size : Int)) - (↑c.size : Int))) (sz8 a0 a1 a2 a3 a4 a5 a6 a7) < 0)) (R (some { av := vI (-1), obs := [], outs := [] })) (R (some { av := vI (szR (IntKind.i64.wrap (IntKind.i64.wrap (l - (↑b.size : Int)) - (↑c.size : Int))) (sz8 a0 a1 a2 a3 a4 a5 a6 a7)), obs := [], outs := [] }))) False))) := by kernel_rfl
theorem h90 : G1Ok Tryd.prog 90 g90 := by
  intro args obs k h
  unfold g90 at h
  split at h
  · rename_i k b n c a0 a1 a2 a3 a4 a5 a6 a7 l
    obtain ⟨hp, h⟩ := br_and h
    rw [Bool.and_eq_true] at hp
    obtain ⟨hB, hl⟩ := hp
    simp only [inL, decide_eq_true_eq] at hl
    unfold inB at hB
    rw [Bool.and_eq_true, Bool.and_eq_true] at hB
    obtain ⟨⟨pb, pc⟩, p8⟩ := hB
    simp only [inS, decide_eq_true_eq] at pb pc
    refine ⟨_, ctr_fn ok0 hg90 Tryd.func90 (by kernel_rfl) (by kernel_rfl) (by kernel_rfl) fun C => ?_, h⟩
    rw [e90]
    have hs : szB (b, n, c, a0, a1, a2, a3, a4, a5, a6, a7, ()) = b.size + c.size + sz8 a0 a1 a2 a3 a4 a5 a6 a7 := rfl
    rw [hs]
    have w1 : IntKind.i64.wrap (l - (b.size : Int)) = l - b.size := wrap_id (by omega) (by omega)
    rw [w1]
    refine br_intro (fun h => ?_) (fun h => ?_)
    · simp only [decide_eq_true_eq] at h
      show _ = _
      rw [show szR l _ = -1 from if_neg (by omega)]
    simp only [decide_eq_false_iff_not] at h
    have w2 : IntKind.i64.wrap (l - (b.size : Int) - c.size) = l - b.size - c.size := wrap_id (by omega) (by omega)
    rw [w2]
    refine br_intro (fun h => ?_) (fun h => ?_)
    · simp only [decide_eq_true_eq] at h
      show _ = _
      rw [show szR l _ = -1 from if_neg (by omega)]
    simp only [decide_eq_false_iff_not] at h
    refine br_intro (fun _ => ?_) (fun h => ?_)
    · refine br_intro (fun h => ?_) (fun h => ?_)
      · simp only [decide_eq_true_eq] at h
        show _ = _
        unfold szR at h ⊢
        split at h
        · omega
        · rw [if_neg (by omega)]
      · simp only [decide_eq_false_iff_not] at h
        show _ = _
        unfold szR at h ⊢
        split at h
        · rename_i h2
          rw [if_pos h2, if_pos (by omega)]
          exact resI (by omega)
        · exact absurd (by omega) h
    · exfalso
      have : (in8 a0 a1 a2 a3 a4 a5 a6 a7 && inL (l - b.size - c.size)) = true := by
        rw [Bool.and_eq_true]
        exact ⟨p8, by simp only [inL, decide_eq_true_eq]; omega⟩
      rw [this] at h
      cases h
  · exact h.elim
noncomputable def E60 : Env := E0.of Tryd.f60
noncomputable def G60 : Gk := gk [(90, g90)]
noncomputable def lp60 (n : Nat) : Code := (loopOf n (codeOf Tryd.f60)).getD .skip
noncomputable def ct60 (L : Lp) (R : Option Res → Prop) (n : Nat) : Kt := contOf E60 G60 L n (codeOf Tryd.f60) (endK E60 Tryd.f60.results.toList R)
noncomputable def rk60 (L : Lp) (R : Option Res → Prop) (n : Nat) (N : St → Prop) : Kt := rk (jof E60 (lp60 n)) N (ct60 L R n)
noncomputable def LOOP60 (L : Lp) (R : Option Res → Prop) (n : Nat) (st : St) : Prop := L (lp60 n) st (ct60 L R n)
theorem hg60 : HG Tryd.prog G60 := (hg_cons h90 hg_nil)
theorem okf60 : Ok Tryd.prog E60 := ok0.of Tryd.f60
theorem e60 (L : Lp) (R : Option Res → Prop) (xs : List (Elem kb)) (l : Int) : (bodyP E0 G60 L Tryd.f60 [.rsl kb xs, .val (.int .i64 l)] [] R) = (
    br (decide (IntKind.i64.wrap (l - (↑xs.length : Int)) < 0)) (R (some { av := vI (-1), obs := [], outs := [] })) (LOOP60 L R 5 { tm := [AV.rsl kb xs, vI (IntKind.i64.wrap (l - (↑xs.length : Int))), vU, vU, vI 0, vI 0, vJ, vJ, vJ, vJ, vJ, vJ, vJ, vJ, vJ, vJ, vJ, vJ, vJ, vJ, vJ, vJ, vJ, vJ, vJ, vJ, vU], ob := [], nx := 1000000, ps := [] })) := by kernel_rfl
def st60 (xs : List (Elem kb)) (l m i : Int) : St :=  ⟨[AV.rsl kb xs, .val (.int .i64 m), vU, vU, vI 0, .val (.int .i64 i), vJ, vJ, vJ, vJ, vJ, vJ, vJ, vJ, vJ, vJ, vJ, vJ, vJ, vJ, vJ, vJ, vJ, vJ, vJ, vJ, vU], [], 1000000, []⟩
theorem b60 (L : Lp) (R : Option Res → Prop) (N : St → Prop) (xs : List (Elem kb)) (l m i : Int) : (evP E60 G60 L (lp60 5) (st60 xs l m i) (rk60 L R 5 N)) = (
    br (decide (i < (↑xs.length : Int))) (br (decide (0 ≤ i ∧ i < (↑xs.length : Int))) (br (inB (xs.getD i.toNat (edflt kb)) && inL m) (br (decide (szR m (szB (xs.getD i.toNat (edflt kb))) < 0)) (R (some { av := vI (-1), obs := [], outs := [] })) (N { tm := [AV.rsl kb xs, vI (szR m (szB (xs.getD i.toNat (edflt kb)))), vU, vU, vI 0, vI (IntKind.i64.wrap (i + 1)), vJ, vJ, vJ, vJ, vJ, vJ, vJ, vJ, vJ, vJ, vJ, vJ, vJ, vJ, vJ, vJ, vJ, vJ, vJ, vJ, vU], ob := [], nx := 1000000, ps := [] })) False) False) (R (some { av := vI m, obs := [], outs := [] }))) := by kernel_rfl
theorem h60 : G1Ok Tryd.prog 60 g60 := by
  intro args obs k h
  unfold g60 at h
  split at h
  · rename_i k xs l
    obtain ⟨hp, h⟩ := br_and h
    rw [Bool.and_eq_true] at hp
    obtain ⟨hB, hl⟩ := hp
    unfold inBs at hB
    rw [Bool.and_eq_true] at hB
    obtain ⟨hlen, hB⟩ := hB
    simp only [inL, decide_eq_true_eq] at hl hlen
    refine ⟨_, ctr_fn ok0 hg60 Tryd.func60 (by kernel_rfl) (by kernel_rfl) (by kernel_rfl) fun C => ?_, h⟩
    rw [e60]
    have e : szBs xs = xs.length + (xs.map szB).sum := rfl
    have hw0 := wrap_id (n := l - xs.length) (by omega) (by omega)
    refine br_dec (fun h => ?_) (fun h => ?_) <;> rw [hw0] at h
    · show _ = _
      rw [e, szR_neg (by omega)]
    · exact loopSz okf60 hg60 (fun i m => st60 xs l m i) xs (edflt kb) szB inB l (by omega) hl.2 hB (fun N i m hi h0 h1 hw hpr neg pos done => by
        show evP E60 G60 _ (lp60 5) (st60 xs l m i) (rk60 _ _ 5 _)
        rw [b60, hw, Int.toNat_natCast]
        refine br_dec (fun h => br_yes ⟨by omega, h⟩ (br_t ?_ (br_dec (fun h2 => ?_) (fun h2 => ?_)))) (fun h => ?_)
        · rw [Bool.and_eq_true]
          exact ⟨hpr (by omega), by simp only [inL, decide_eq_true_eq]; omega⟩
        · show _ = _
          rw [e, neg (by omega) (szR_lt0 h2)]
        · rw [szR_pos (szR_ge0 h2)]
          exact pos (by omega) (szR_ge0 h2)
        · show _ = _
          rw [e, done (by omega)]) _ hw0 (by omega)
  · exact h.elim
noncomputable def E32 : Env := E0.of Tryd.f32
noncomputable def G32 : Gk := gk [(60, g60)]
noncomputable def lp32 (n : Nat) : Code := (loopOf n (codeOf Tryd.f32)).getD .skip
noncomputable def ct32 (L : Lp) (R : Option Res → Prop) (n : Nat) : Kt := contOf E32 G32 L n (codeOf Tryd.f32) (endK E32 Tryd.f32.results.toList R)
noncomputable def rk32 (L : Lp) (R : Option Res → Prop) (n : Nat) (N : St → Prop) : Kt := rk (jof E32 (lp32 n)) N (ct32 L R n)
noncomputable def LOOP32 (L : Lp) (R : Option Res → Prop) (n : Nat) (st : St) : Prop := L (lp32 n) st (ct32 L R n)
theorem hg32 : HG Tryd.prog G32 := (hg_cons h60 hg_nil)
theorem okf32 : Ok Tryd.prog E32 := ok0.of Tryd.f32
theorem e32 (L : Lp) (R : Option Res → Prop) (xs : List (Elem kb)) (l : Int) : (bodyP E0 G32 L Tryd.f32 [.agg [.rsl kb xs], .val (.int .i64 l)] [] R) = (
    br (inBs xs && inL l) (br (decide (szR l (szBs xs) < 0)) (R (some { av := vI (-1), obs := [], outs := [] })) (R (some { av := vI (szR l (szBs xs)), obs := [], outs := [] }))) False) := by kernel_rfl
theorem h32 : G1Ok Tryd.prog 32 g32 := by
  intro args obs k h
  unfold g32 at h
  split at h
  · rename_i k xs l
    obtain ⟨hp, h⟩ := br_and h
    refine ⟨_, ctr_fn ok0 hg32 Tryd.func32 (by kernel_rfl) (by kernel_rfl) (by kernel_rfl) fun C => ?_, h⟩
    rw [e32]
    refine br_t hp (br_dec (fun h2 => ?_) (fun h2 => ?_))
    · show _ = _
      rw [szR_neg (szR_lt0 h2)]
    · rfl
  · exact h.elim
end Go.Proofs.YtljilcingbohkaaDoor.Ev

