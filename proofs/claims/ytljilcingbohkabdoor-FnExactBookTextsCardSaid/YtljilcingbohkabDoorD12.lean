/- Contracts for books: sizes, copies, equality. -/
import Derived.Test.YtljilcingbohkabDoorD8
namespace Go.Proofs.YtljilcingbohkabDoor.Ev
open Go
set_option linter.unusedVariables false
set_option linter.unusedSimpArgs false
set_option maxRecDepth 100000
abbrev s8 (a0 a1 a2 a3 a4 a5 a6 a7 : ByteArray) : AV := .agg [.val (.string a0), .val (.string a1), .val (.string a2), .val (.string a3), .val (.string a4), .val (.string a5), .val (.string a6), .val (.string a7)]
def sz8 (a0 a1 a2 a3 a4 a5 a6 a7 : ByteArray) : Nat := a0.size + a1.size + a2.size + a3.size + a4.size + a5.size + a6.size + a7.size
def in8 (a0 a1 a2 a3 a4 a5 a6 a7 : ByteArray) : Bool := inS a0 && inS a1 && inS a2 && inS a3 && inS a4 && inS a5 && inS a6 && inS a7
def g160 : G1
  | [.agg [.val (.string a0), .val (.string a1), .val (.string a2), .val (.string a3), .val (.string a4), .val (.string a5), .val (.string a6), .val (.string a7)], .val (.int .i64 l)], [], k =>
    br (in8 a0 a1 a2 a3 a4 a5 a6 a7 && inL l) (k ⟨.val (.int .i64 (szR l (sz8 a0 a1 a2 a3 a4 a5 a6 a7))), [], []⟩) False
  | _, _, _ => False
abbrev kb : List CK := [.str, .int .i64, .str, .str, .str, .str, .str, .str, .str, .str, .str]
def szB (e : Elem kb) : Nat := e.1.size + e.2.2.1.size + sz8 e.2.2.2.1 e.2.2.2.2.1 e.2.2.2.2.2.1 e.2.2.2.2.2.2.1 e.2.2.2.2.2.2.2.1 e.2.2.2.2.2.2.2.2.1 e.2.2.2.2.2.2.2.2.2.1 e.2.2.2.2.2.2.2.2.2.2.1
def inB (e : Elem kb) : Bool := inS e.1 && inS e.2.2.1 && in8 e.2.2.2.1 e.2.2.2.2.1 e.2.2.2.2.2.1 e.2.2.2.2.2.2.1 e.2.2.2.2.2.2.2.1 e.2.2.2.2.2.2.2.2.1 e.2.2.2.2.2.2.2.2.2.1 e.2.2.2.2.2.2.2.2.2.2.1
def g134 : G1
  | [.agg [.val (.string b), .val (.int .i64 n), .val (.string c), .val (.string a0), .val (.string a1), .val (.string a2), .val (.string a3), .val (.string a4), .val (.string a5), .val (.string a6), .val (.string a7)], .val (.int .i64 l)], [], k =>
    br (inB (b, n, c, a0, a1, a2, a3, a4, a5, a6, a7, ()) && inL l) (k ⟨.val (.int .i64 (szR l (szB (b, n, c, a0, a1, a2, a3, a4, a5, a6, a7, ())))), [], []⟩) False
  | _, _, _ => False
def szBs (xs : List (Elem kb)) : Nat := xs.length + (xs.map szB).sum
def inBs (xs : List (Elem kb)) : Bool := decide (xs.length ≤ 9223372036854775807) && xs.all inB
def g85 : G1
  | [.rsl [.str, .int .i64, .str, .str, .str, .str, .str, .str, .str, .str, .str] xs, .val (.int .i64 l)], [], k => br (inBs xs && inL l) (k ⟨.val (.int .i64 (szR l (szBs xs))), [], []⟩) False
  | _, _, _ => False
def g24 : G1
  | [.agg [.rsl [.str, .int .i64, .str, .str, .str, .str, .str, .str, .str, .str, .str] xs], .val (.int .i64 l)], [], k => br (inBs xs && inL l) (k ⟨.val (.int .i64 (szR l (szBs xs))), [], []⟩) False
  | _, _, _ => False
noncomputable def E160 : Env := E0.of Tryd.f160
noncomputable def G160 : Gk := gk []
noncomputable def lp160 (n : Nat) : Code := (loopOf n (codeOf Tryd.f160)).getD .skip
noncomputable def ct160 (L : Lp) (R : Option Res → Prop) (n : Nat) : Kt := contOf E160 G160 L n (codeOf Tryd.f160) (endK E160 Tryd.f160.results.toList R)
noncomputable def rk160 (L : Lp) (R : Option Res → Prop) (n : Nat) (N : St → Prop) : Kt := rk (jof E160 (lp160 n)) N (ct160 L R n)
noncomputable def rkn160 (L : Lp) (R : Option Res → Prop) (n : Nat) (N : St → Prop) (m : Nat) (N2 : St → Prop) : Kt := rk (jof E160 (lp160 m)) N2 (contOf E160 G160 L m (lp160 n) (rk160 L R n N))
noncomputable def LOOPN160 (L : Lp) (R : Option Res → Prop) (n : Nat) (N : St → Prop) (m : Nat) (st : St) : Prop := L (lp160 m) st (contOf E160 G160 L m (lp160 n) (rk160 L R n N))
noncomputable def LOOP160 (L : Lp) (R : Option Res → Prop) (n : Nat) (st : St) : Prop := L (lp160 n) st (ct160 L R n)
theorem hg160 : HG Tryd.prog G160 := hg_nil
theorem okf160 : Ok Tryd.prog E160 := ok0.of Tryd.f160
theorem e160 (L : Lp) (R : Option Res → Prop) (a0 a1 a2 a3 a4 a5 a6 a7 : ByteArray) (l : Int) : (bodyP E0 G160 L Tryd.f160 [s8 a0 a1 a2 a3 a4 a5 a6 a7, .val (.int .i64 l)] [] R) = (
    LOOP160 L R 2 { tm := [AV.agg [vS a0, vS a1, vS a2, vS a3, vS a4, vS a5, vS a6, vS a7], vI l, AV.ptr 0 0, vU, vI 0, vI 0, vJ, vJ, vJ, vJ, vJ, vJ, vJ, vJ, vJ, vJ, vJ, vJ, vU], ob := [(0, AO.box [vS a0, vS a1, vS a2, vS a3, vS a4, vS a5, vS a6, vS a7])], nx := 1000000, ps := [] }) := by kernel_rfl
def st160 (a0 a1 a2 a3 a4 a5 a6 a7 : ByteArray) (i l : Int) : St :=  ⟨[AV.agg [vS a0, vS a1, vS a2, vS a3, vS a4, vS a5, vS a6, vS a7], .val (.int .i64 l), AV.ptr 0 0, vU, vI 0, .val (.int .i64 i), vJ, vJ, vJ, vJ, vJ, vJ, vJ, vJ, vJ, vJ, vJ, vJ, vU], [(0, AO.box [vS a0, vS a1, vS a2, vS a3, vS a4, vS a5, vS a6, vS a7])], 1000000, []⟩
theorem b160_0 (L : Lp) (R : Option Res → Prop) (N : St → Prop) (a0 a1 a2 a3 a4 a5 a6 a7 : ByteArray) (l : Int) : (evP E160 G160 L (lp160 2) (st160 a0 a1 a2 a3 a4 a5 a6 a7 0 l) (rk160 L R 2 N)) = (
    br (decide (IntKind.i64.wrap (l - (↑a0.size : Int)) < 0)) (R (some { av := vI (-1), obs := [], outs := [] })) (N { tm := [AV.agg [vS a0, vS a1, vS a2, vS a3, vS a4, vS a5, vS a6, vS a7], vI (IntKind.i64.wrap (l - (↑a0.size : Int))), AV.ptr 0 0, vU, vI 0, vI 1, vJ, vJ, vJ, vJ, vJ, vJ, vJ, vJ, vJ, vJ, vJ, vJ, vU], ob := [(0, AO.box [vS a0, vS a1, vS a2, vS a3, vS a4, vS a5, vS a6, vS a7])], nx := 1000000, ps := [] })) := by kernel_rfl
theorem b160_1 (L : Lp) (R : Option Res → Prop) (N : St → Prop) (a0 a1 a2 a3 a4 a5 a6 a7 : ByteArray) (l : Int) : (evP E160 G160 L (lp160 2) (st160 a0 a1 a2 a3 a4 a5 a6 a7 1 l) (rk160 L R 2 N)) = (
    br (decide (IntKind.i64.wrap (l - (↑a1.size : Int)) < 0)) (R (some { av := vI (-1), obs := [], outs := [] })) (N { tm := [AV.agg [vS a0, vS a1, vS a2, vS a3, vS a4, vS a5, vS a6, vS a7], vI (IntKind.i64.wrap (l - (↑a1.size : Int))), AV.ptr 0 0, vU, vI 0, vI 2, vJ, vJ, vJ, vJ, vJ, vJ, vJ, vJ, vJ, vJ, vJ, vJ, vU], ob := [(0, AO.box [vS a0, vS a1, vS a2, vS a3, vS a4, vS a5, vS a6, vS a7])], nx := 1000000, ps := [] })) := by kernel_rfl
theorem b160_2 (L : Lp) (R : Option Res → Prop) (N : St → Prop) (a0 a1 a2 a3 a4 a5 a6 a7 : ByteArray) (l : Int) : (evP E160 G160 L (lp160 2) (st160 a0 a1 a2 a3 a4 a5 a6 a7 2 l) (rk160 L R 2 N)) = (
    br (decide (IntKind.i64.wrap (l - (↑a2.size : Int)) < 0)) (R (some { av := vI (-1), obs := [], outs := [] })) (N { tm := [AV.agg [vS a0, vS a1, vS a2, vS a3, vS a4, vS a5, vS a6, vS a7], vI (IntKind.i64.wrap (l - (↑a2.size : Int))), AV.ptr 0 0, vU, vI 0, vI 3, vJ, vJ, vJ, vJ, vJ, vJ, vJ, vJ, vJ, vJ, vJ, vJ, vU], ob := [(0, AO.box [vS a0, vS a1, vS a2, vS a3, vS a4, vS a5, vS a6, vS a7])], nx := 1000000, ps := [] })) := by kernel_rfl
theorem b160_3 (L : Lp) (R : Option Res → Prop) (N : St → Prop) (a0 a1 a2 a3 a4 a5 a6 a7 : ByteArray) (l : Int) : (evP E160 G160 L (lp160 2) (st160 a0 a1 a2 a3 a4 a5 a6 a7 3 l) (rk160 L R 2 N)) = (
    br (decide (IntKind.i64.wrap (l - (↑a3.size : Int)) < 0)) (R (some { av := vI (-1), obs := [], outs := [] })) (N { tm := [AV.agg [vS a0, vS a1, vS a2, vS a3, vS a4, vS a5, vS a6, vS a7], vI (IntKind.i64.wrap (l - (↑a3.size : Int))), AV.ptr 0 0, vU, vI 0, vI 4, vJ, vJ, vJ, vJ, vJ, vJ, vJ, vJ, vJ, vJ, vJ, vJ, vU], ob := [(0, AO.box [vS a0, vS a1, vS a2, vS a3, vS a4, vS a5, vS a6, vS a7])], nx := 1000000, ps := [] })) := by kernel_rfl
theorem b160_4 (L : Lp) (R : Option Res → Prop) (N : St → Prop) (a0 a1 a2 a3 a4 a5 a6 a7 : ByteArray) (l : Int) : (evP E160 G160 L (lp160 2) (st160 a0 a1 a2 a3 a4 a5 a6 a7 4 l) (rk160 L R 2 N)) = (
    br (decide (IntKind.i64.wrap (l - (↑a4.size : Int)) < 0)) (R (some { av := vI (-1), obs := [], outs := [] })) (N { tm := [AV.agg [vS a0, vS a1, vS a2, vS a3, vS a4, vS a5, vS a6, vS a7], vI (IntKind.i64.wrap (l - (↑a4.size : Int))), AV.ptr 0 0, vU, vI 0, vI 5, vJ, vJ, vJ, vJ, vJ, vJ, vJ, vJ, vJ, vJ, vJ, vJ, vU], ob := [(0, AO.box [vS a0, vS a1, vS a2, vS a3, vS a4, vS a5, vS a6, vS a7])], nx := 1000000, ps := [] })) := by kernel_rfl
theorem b160_5 (L : Lp) (R : Option Res → Prop) (N : St → Prop) (a0 a1 a2 a3 a4 a5 a6 a7 : ByteArray) (l : Int) : (evP E160 G160 L (lp160 2) (st160 a0 a1 a2 a3 a4 a5 a6 a7 5 l) (rk160 L R 2 N)) = (
    br (decide (IntKind.i64.wrap (l - (↑a5.size : Int)) < 0)) (R (some { av := vI (-1), obs := [], outs := [] })) (N { tm := [AV.agg [vS a0, vS a1, vS a2, vS a3, vS a4, vS a5, vS a6, vS a7], vI (IntKind.i64.wrap (l - (↑a5.size : Int))), AV.ptr 0 0, vU, vI 0, vI 6, vJ, vJ, vJ, vJ, vJ, vJ, vJ, vJ, vJ, vJ, vJ, vJ, vU], ob := [(0, AO.box [vS a0, vS a1, vS a2, vS a3, vS a4, vS a5, vS a6, vS a7])], nx := 1000000, ps := [] })) := by kernel_rfl
theorem b160_6 (L : Lp) (R : Option Res → Prop) (N : St → Prop) (a0 a1 a2 a3 a4 a5 a6 a7 : ByteArray) (l : Int) : (evP E160 G160 L (lp160 2) (st160 a0 a1 a2 a3 a4 a5 a6 a7 6 l) (rk160 L R 2 N)) = (
    br (decide (IntKind.i64.wrap (l - (↑a6.size : Int)) < 0)) (R (some { av := vI (-1), obs := [], outs := [] })) (N { tm := [AV.agg [vS a0, vS a1, vS a2, vS a3, vS a4, vS a5, vS a6, vS a7], vI (IntKind.i64.wrap (l - (↑a6.size : Int))), AV.ptr 0 0, vU, vI 0, vI 7, vJ, vJ, vJ, vJ, vJ, vJ, vJ, vJ, vJ, vJ, vJ, vJ, vU], ob := [(0, AO.box [vS a0, vS a1, vS a2, vS a3, vS a4, vS a5, vS a6, vS a7])], nx := 1000000, ps := [] })) := by kernel_rfl
theorem b160_7 (L : Lp) (R : Option Res → Prop) (N : St → Prop) (a0 a1 a2 a3 a4 a5 a6 a7 : ByteArray) (l : Int) : (evP E160 G160 L (lp160 2) (st160 a0 a1 a2 a3 a4 a5 a6 a7 7 l) (rk160 L R 2 N)) = (
    br (decide (IntKind.i64.wrap (l - (↑a7.size : Int)) < 0)) (R (some { av := vI (-1), obs := [], outs := [] })) (N { tm := [AV.agg [vS a0, vS a1, vS a2, vS a3, vS a4, vS a5, vS a6, vS a7], vI (IntKind.i64.wrap (l - (↑a7.size : Int))), AV.ptr 0 0, vU, vI 0, vI 8, vJ, vJ, vJ, vJ, vJ, vJ, vJ, vJ, vJ, vJ, vJ, vJ, vU], ob := [(0, AO.box [vS a0, vS a1, vS a2, vS a3, vS a4, vS a5, vS a6, vS a7])], nx := 1000000, ps := [] })) := by kernel_rfl
theorem b160_8 (L : Lp) (R : Option Res → Prop) (N : St → Prop) (a0 a1 a2 a3 a4 a5 a6 a7 : ByteArray) (l : Int) : (evP E160 G160 L (lp160 2) (st160 a0 a1 a2 a3 a4 a5 a6 a7 8 l) (rk160 L R 2 N)) = (
    R (some { av := vI l, obs := [], outs := [] })) := by kernel_rfl
def pre8 (a0 a1 a2 a3 a4 a5 a6 a7 : ByteArray) (i : Nat) : Nat := (([a0, a1, a2, a3, a4, a5, a6, a7].take i).map (·.size)).sum
theorem h160 : G1Ok Tryd.prog 160 g160 := by
  intro args obs k h
  unfold g160 at h
  split at h
  · rename_i k a0 a1 a2 a3 a4 a5 a6 a7 l
    obtain ⟨hp, h⟩ := br_and h
    simp only [in8, inS, inL, Bool.and_eq_true, decide_eq_true_eq] at hp
    obtain ⟨⟨⟨⟨⟨⟨⟨⟨p0, p1⟩, p2⟩, p3⟩, p4⟩, p5⟩, p6⟩, p7⟩, pl⟩ := hp
    refine ⟨_, ctr_fn ok0 hg160 Tryd.func160 (by kernel_rfl) (by kernel_rfl) (by kernel_rfl) fun C => ?_, h⟩
    rw [e160]
    exact loopR okf160 hg160 (ι := {p : Nat × Int // p.1 ≤ 8 ∧ 0 ≤ p.2 ∧ p.2 = l - pre8 a0 a1 a2 a3 a4 a5 a6 a7 p.1}) (fun p => st160 a0 a1 a2 a3 a4 a5 a6 a7 p.1.1 p.1.2) (fun p => 8 - p.1.1) (fun ⟨(i, m), h0, h1, h2⟩ => by
      show evP E160 G160 _ (lp160 2) (st160 a0 a1 a2 a3 a4 a5 a6 a7 i m) (rk160 _ _ 2 _)
      simp only at h0 h1 h2
      have neg : ∀ (a : ByteArray), a.size ≤ 9223372036854775807 → pre8 a0 a1 a2 a3 a4 a5 a6 a7 i + a.size ≤ sz8 a0 a1 a2 a3 a4 a5 a6 a7 → decide (IntKind.i64.wrap (m - (a.size : Int)) < 0) = true →
          (some ⟨.val (.int .i64 (-1)), [], []⟩ : Option Res) = some ⟨.val (.int .i64 (szR l (sz8 a0 a1 a2 a3 a4 a5 a6 a7))), [], []⟩ := by
        intro a ha hle h3
        rw [wrap_id (n := m - (a.size : Int)) (by omega) (by omega)] at h3
        simp only [decide_eq_true_eq] at h3
        have : szR l (sz8 a0 a1 a2 a3 a4 a5 a6 a7) = -1 := by unfold szR; rw [if_neg (by omega)]
        rw [this]
      have pos : ∀ (a : ByteArray), a.size ≤ 9223372036854775807 → pre8 a0 a1 a2 a3 a4 a5 a6 a7 (i + 1) = pre8 a0 a1 a2 a3 a4 a5 a6 a7 i + a.size → i < 8 → decide (IntKind.i64.wrap (m - (a.size : Int)) < 0) = false →
          ∃ j : {p : Nat × Int // p.1 ≤ 8 ∧ 0 ≤ p.2 ∧ p.2 = l - pre8 a0 a1 a2 a3 a4 a5 a6 a7 p.1}, st160 a0 a1 a2 a3 a4 a5 a6 a7 ((i + 1 : Nat) : Int) (IntKind.i64.wrap (m - (a.size : Int))) = st160 a0 a1 a2 a3 a4 a5 a6 a7 j.1.1 j.1.2 ∧ 8 - j.1.1 < 8 - i := by
        intro a ha hs hi h3
        have hw := wrap_id (n := m - (a.size : Int)) (by omega) (by omega)
        rw [hw] at h3 ⊢
        simp only [decide_eq_false_iff_not] at h3
        exact ⟨⟨(i + 1, m - a.size), by show i + 1 ≤ 8; omega, by show 0 ≤ m - (a.size : Int); omega, by show m - (a.size : Int) = l - (pre8 a0 a1 a2 a3 a4 a5 a6 a7 (i + 1) : Nat); omega⟩, rfl, by show 8 - (i + 1) < 8 - i; omega⟩
      have cs : i = 0 ∨ i = 1 ∨ i = 2 ∨ i = 3 ∨ i = 4 ∨ i = 5 ∨ i = 6 ∨ i = 7 ∨ i = 8 := by omega
      rcases cs with rfl | rfl | rfl | rfl | rfl | rfl | rfl | rfl | rfl
      · show evP E160 G160 _ (lp160 2) (st160 a0 a1 a2 a3 a4 a5 a6 a7 0 m) (rk160 _ _ 2 _)
        rw [b160_0]
        exact br_intro (fun h3 => neg a0 p0 (by simp [pre8, sz8]; omega) h3) (fun h3 => pos a0 p0 (by simp [pre8]) (by omega) h3)
      · show evP E160 G160 _ (lp160 2) (st160 a0 a1 a2 a3 a4 a5 a6 a7 1 m) (rk160 _ _ 2 _)
        rw [b160_1]
        exact br_intro (fun h3 => neg a1 p1 (by simp [pre8, sz8]; omega) h3) (fun h3 => pos a1 p1 (by simp [pre8]) (by omega) h3)
      · show evP E160 G160 _ (lp160 2) (st160 a0 a1 a2 a3 a4 a5 a6 a7 2 m) (rk160 _ _ 2 _)
        rw [b160_2]
        exact br_intro (fun h3 => neg a2 p2 (by simp [pre8, sz8]; omega) h3) (fun h3 => pos a2 p2 (by simp [pre8]; omega) (by omega) h3)
      · show evP E160 G160 _ (lp160 2) (st160 a0 a1 a2 a3 a4 a5 a6 a7 3 m) (rk160 _ _ 2 _)
        rw [b160_3]
        exact br_intro (fun h3 => neg a3 p3 (by simp [pre8, sz8]; omega) h3) (fun h3 => pos a3 p3 (by simp [pre8]; omega) (by omega) h3)
      · show evP E160 G160 _ (lp160 2) (st160 a0 a1 a2 a3 a4 a5 a6 a7 4 m) (rk160 _ _ 2 _)
        rw [b160_4]
        exact br_intro (fun h3 => neg a4 p4 (by simp [pre8, sz8]; omega) h3) (fun h3 => pos a4 p4 (by simp [pre8]; omega) (by omega) h3)
      · show evP E160 G160 _ (lp160 2) (st160 a0 a1 a2 a3 a4 a5 a6 a7 5 m) (rk160 _ _ 2 _)
        rw [b160_5]
        exact br_intro (fun h3 => neg a5 p5 (by simp [pre8, sz8]; omega) h3) (fun h3 => pos a5 p5 (by simp [pre8]; omega) (by omega) h3)
      · show evP E160 G160 _ (lp160 2) (st160 a0 a1 a2 a3 a4 a5 a6 a7 6 m) (rk160 _ _ 2 _)
        rw [b160_6]
        exact br_intro (fun h3 => neg a6 p6 (by simp [pre8, sz8]; omega) h3) (fun h3 => pos a6 p6 (by simp [pre8]; omega) (by omega) h3)
      · show evP E160 G160 _ (lp160 2) (st160 a0 a1 a2 a3 a4 a5 a6 a7 7 m) (rk160 _ _ 2 _)
        rw [b160_7]
        exact br_intro (fun h3 => neg a7 p7 (by simp [pre8, sz8]; omega) h3) (fun h3 => pos a7 p7 (by simp [pre8]; omega) (by omega) h3)
      · show evP E160 G160 _ (lp160 2) (st160 a0 a1 a2 a3 a4 a5 a6 a7 8 m) (rk160 _ _ 2 _)
        rw [b160_8]
        show _ = _
        have e : pre8 a0 a1 a2 a3 a4 a5 a6 a7 8 = sz8 a0 a1 a2 a3 a4 a5 a6 a7 := by simp [pre8, sz8]; omega
        have : szR l (sz8 a0 a1 a2 a3 a4 a5 a6 a7) = m := by unfold szR; rw [if_pos (by omega)]; omega
        rw [this]) ⟨(0, l), by simp, pl.1, by simp [pre8]⟩
  · exact h.elim
noncomputable def E134 : Env := E0.of Tryd.f134
noncomputable def G134 : Gk := gk [(160, g160)]
noncomputable def lp134 (n : Nat) : Code := (loopOf n (codeOf Tryd.f134)).getD .skip
noncomputable def ct134 (L : Lp) (R : Option Res → Prop) (n : Nat) : Kt := contOf E134 G134 L n (codeOf Tryd.f134) (endK E134 Tryd.f134.results.toList R)
noncomputable def rk134 (L : Lp) (R : Option Res → Prop) (n : Nat) (N : St → Prop) : Kt := rk (jof E134 (lp134 n)) N (ct134 L R n)
noncomputable def rkn134 (L : Lp) (R : Option Res → Prop) (n : Nat) (N : St → Prop) (m : Nat) (N2 : St → Prop) : Kt := rk (jof E134 (lp134 m)) N2 (contOf E134 G134 L m (lp134 n) (rk134 L R n N))
noncomputable def LOOPN134 (L : Lp) (R : Option Res → Prop) (n : Nat) (N : St → Prop) (m : Nat) (st : St) : Prop := L (lp134 m) st (contOf E134 G134 L m (lp134 n) (rk134 L R n N))
noncomputable def LOOP134 (L : Lp) (R : Option Res → Prop) (n : Nat) (st : St) : Prop := L (lp134 n) st (ct134 L R n)
theorem hg134 : HG Tryd.prog G134 := (hg_cons h160 hg_nil)
theorem okf134 : Ok Tryd.prog E134 := ok0.of Tryd.f134
theorem e134 (L : Lp) (R : Option Res → Prop) (b c a0 a1 a2 a3 a4 a5 a6 a7 : ByteArray) (n l : Int) : (bodyP E0 G134 L Tryd.f134 [.agg [.val (.string b), .val (.int .i64 n), .val (.string c), .val (.string a0), .val (.string a1), .val (.string a2), .val (.string a3), .val (.string a4), .val (.string a5), .val (.string a6), .val (.string a7)], .val (.int .i64 l)] [] R) = (
    br (decide (IntKind.i64.wrap (l - (↑b.size : Int)) < 0)) (R (some { av := vI (-1), obs := [], outs := [] })) (br (decide (IntKind.i64.wrap (IntKind.i64.wrap (l - (↑b.size : Int)) - (↑c.size : Int)) < 0)) (R (some { av := vI (-1), obs := [], outs := [] })) (br (in8 a0 a1 a2 a3 a4 a5 a6 a7 && inL (IntKind.i64.wrap (IntKind.i64.wrap (l - (↑b.size : Int)) - (↑c.size : Int)))) (br (decide (szR (IntKind.i64.wrap (IntKind.i64.wrap (l - (↑b.size : Int)) - (↑c.size : Int))) (sz8 a0 a1 a2 a3 a4 a5 a6 a7) < 0)) (R (some { av := vI (-1), obs := [], outs := [] })) (R (some { av := vI (szR (IntKind.i64.wrap (IntKind.i64.wrap (l - (↑b.size : Int)) - (↑c.size : Int))) (sz8 a0 a1 a2 a3 a4 a5 a6 a7)), obs := [], outs := [] }))) False))) := by kernel_rfl
theorem h134 : G1Ok Tryd.prog 134 g134 := by
  intro args obs k h
  unfold g134 at h
  split at h
  · rename_i k b n c a0 a1 a2 a3 a4 a5 a6 a7 l
    obtain ⟨hp, h⟩ := br_and h
    rw [Bool.and_eq_true] at hp
    obtain ⟨hB, hl⟩ := hp
    simp only [inL, decide_eq_true_eq] at hl
    unfold inB at hB
    rw [Bool.and_eq_true, Bool.and_eq_true] at hB
    obtain ⟨⟨pb, pc⟩, p8⟩ := hB
    simp only [inS, decide_eq_true_eq] at pb pc
    refine ⟨_, ctr_fn ok0 hg134 Tryd.func134 (by kernel_rfl) (by kernel_rfl) (by kernel_rfl) fun C => ?_, h⟩
    rw [e134]
    have hs : szB (b, n, c, a0, a1, a2, a3, a4, a5, a6, a7, ()) = b.size + c.size + sz8 a0 a1 a2 a3 a4 a5 a6 a7 := rfl
    rw [hs]
    have w1 : IntKind.i64.wrap (l - (b.size : Int)) = l - b.size := wrap_id (by omega) (by omega)
    rw [w1]
    refine br_intro (fun h => ?_) (fun h => ?_)
    · simp only [decide_eq_true_eq] at h
      show _ = _
      rw [show szR l _ = -1 from if_neg (by omega)]
    simp only [decide_eq_false_iff_not] at h
    have w2 : IntKind.i64.wrap (l - (b.size : Int) - c.size) = l - b.size - c.size := wrap_id (by omega) (by omega)
    rw [w2]
    refine br_intro (fun h => ?_) (fun h => ?_)
    · simp only [decide_eq_true_eq] at h
      show _ = _
      rw [show szR l _ = -1 from if_neg (by omega)]
    simp only [decide_eq_false_iff_not] at h
    refine br_intro (fun _ => ?_) (fun h => ?_)
    · refine br_intro (fun h => ?_) (fun h => ?_)
      · simp only [decide_eq_true_eq] at h
        show _ = _
        unfold szR at h ⊢
        split at h
        · omega
        · rw [if_neg (by omega)]
      · simp only [decide_eq_false_iff_not] at h
        show _ = _
        unfold szR at h ⊢
        split at h
        · rename_i h2
          rw [if_pos h2, if_pos (by omega)]
          exact resI (by omega)
        · exact absurd (by omega) h
    · exfalso
      have : (in8 a0 a1 a2 a3 a4 a5 a6 a7 && inL (l - b.size - c.size)) = true := by
        rw [Bool.and_eq_true]
        exact ⟨p8, by simp only [inL, decide_eq_true_eq]; omega⟩
      rw [this] at h
      cases h
  · exact h.elim
noncomputable def E85 : Env := E0.of Tryd.f85
noncomputable def G85 : Gk := gk [(134, g134)]
noncomputable def lp85 (n : Nat) : Code := (loopOf n (codeOf Tryd.f85)).getD .skip
noncomputable def ct85 (L : Lp) (R : Option Res → Prop) (n : Nat) : Kt := contOf E85 G85 L n (codeOf Tryd.f85) (endK E85 Tryd.f85.results.toList R)
noncomputable def rk85 (L : Lp) (R : Option Res → Prop) (n : Nat) (N : St → Prop) : Kt := rk (jof E85 (lp85 n)) N (ct85 L R n)
noncomputable def rkn85 (L : Lp) (R : Option Res → Prop) (n : Nat) (N : St → Prop) (m : Nat) (N2 : St → Prop) : Kt := rk (jof E85 (lp85 m)) N2 (contOf E85 G85 L m (lp85 n) (rk85 L R n N))
noncomputable def LOOPN85 (L : Lp) (R : Option Res → Prop) (n : Nat) (N : St → Prop) (m : Nat) (st : St) : Prop := L (lp85 m) st (contOf E85 G85 L m (lp85 n) (rk85 L R n N))
noncomputable def LOOP85 (L : Lp) (R : Option Res → Prop) (n : Nat) (st : St) : Prop := L (lp85 n) st (ct85 L R n)
theorem hg85 : HG Tryd.prog G85 := (hg_cons h134 hg_nil)
theorem okf85 : Ok Tryd.prog E85 := ok0.of Tryd.f85
theorem e85 (L : Lp) (R : Option Res → Prop) (xs : List (Elem kb)) (l : Int) : (bodyP E0 G85 L Tryd.f85 [.rsl kb xs, .val (.int .i64 l)] [] R) = (
    br (decide (IntKind.i64.wrap (l - (↑xs.length : Int)) < 0)) (R (some { av := vI (-1), obs := [], outs := [] })) (LOOP85 L R 5 { tm := [AV.rsl kb xs, vI (IntKind.i64.wrap (l - (↑xs.length : Int))), vU, vU, vI 0, vI 0, vJ, vJ, vJ, vJ, vJ, vJ, vJ, vJ, vJ, vJ, vJ, vJ, vJ, vJ, vJ, vJ, vJ, vJ, vJ, vJ, vU], ob := [], nx := 1000000, ps := [] })) := by kernel_rfl
def st85 (xs : List (Elem kb)) (l m i : Int) : St :=  ⟨[AV.rsl kb xs, .val (.int .i64 m), vU, vU, vI 0, .val (.int .i64 i), vJ, vJ, vJ, vJ, vJ, vJ, vJ, vJ, vJ, vJ, vJ, vJ, vJ, vJ, vJ, vJ, vJ, vJ, vJ, vJ, vU], [], 1000000, []⟩
theorem b85 (L : Lp) (R : Option Res → Prop) (N : St → Prop) (xs : List (Elem kb)) (l m i : Int) : (evP E85 G85 L (lp85 5) (st85 xs l m i) (rk85 L R 5 N)) = (
    br (decide (i < (↑xs.length : Int))) (br (decide (0 ≤ i ∧ i < (↑xs.length : Int))) (br (inB (xs.getD i.toNat (edflt kb)) && inL m) (br (decide (szR m (szB (xs.getD i.toNat (edflt kb))) < 0)) (R (some { av := vI (-1), obs := [], outs := [] })) (N { tm := [AV.rsl kb xs, vI (szR m (szB (xs.getD i.toNat (edflt kb)))), vU, vU, vI 0, vI (IntKind.i64.wrap (i + 1)), vJ, vJ, vJ, vJ, vJ, vJ, vJ, vJ, vJ, vJ, vJ, vJ, vJ, vJ, vJ, vJ, vJ, vJ, vJ, vJ, vU], ob := [], nx := 1000000, ps := [] })) False) False) (R (some { av := vI m, obs := [], outs := [] }))) := by kernel_rfl
theorem h85 : G1Ok Tryd.prog 85 g85 := by
  intro args obs k h
  unfold g85 at h
  split at h
  · rename_i k xs l
    obtain ⟨hp, h⟩ := br_and h
    rw [Bool.and_eq_true] at hp
    obtain ⟨hB, hl⟩ := hp
    unfold inBs at hB
    rw [Bool.and_eq_true] at hB
    obtain ⟨hlen, hB⟩ := hB
    simp only [inL, decide_eq_true_eq] at hl hlen
    refine ⟨_, ctr_fn ok0 hg85 Tryd.func85 (by kernel_rfl) (by kernel_rfl) (by kernel_rfl) fun C => ?_, h⟩
    rw [e85]
    have e : szBs xs = xs.length + (xs.map szB).sum := rfl
    have hw0 := wrap_id (n := l - xs.length) (by omega) (by omega)
    refine br_dec (fun h => ?_) (fun h => ?_) <;> rw [hw0] at h
    · show _ = _
      rw [e, szR_neg (by omega)]
    · exact loopSz okf85 hg85 (fun i m => st85 xs l m i) xs (edflt kb) szB inB l (by omega) hl.2 hB (fun N i m hi h0 h1 hw hpr neg pos done => by
        show evP E85 G85 _ (lp85 5) (st85 xs l m i) (rk85 _ _ 5 _)
        rw [b85, hw, Int.toNat_natCast]
        refine br_dec (fun h => br_yes ⟨by omega, h⟩ (br_t ?_ (br_dec (fun h2 => ?_) (fun h2 => ?_)))) (fun h => ?_)
        · rw [Bool.and_eq_true]
          exact ⟨hpr (by omega), by simp only [inL, decide_eq_true_eq]; omega⟩
        · show _ = _
          rw [e, neg (by omega) (szR_lt0 h2)]
        · rw [szR_pos (szR_ge0 h2)]
          exact pos (by omega) (szR_ge0 h2)
        · show _ = _
          rw [e, done (by omega)]) _ hw0 (by omega)
  · exact h.elim
noncomputable def E24 : Env := E0.of Tryd.f24
noncomputable def G24 : Gk := gk [(85, g85)]
noncomputable def lp24 (n : Nat) : Code := (loopOf n (codeOf Tryd.f24)).getD .skip
noncomputable def ct24 (L : Lp) (R : Option Res → Prop) (n : Nat) : Kt := contOf E24 G24 L n (codeOf Tryd.f24) (endK E24 Tryd.f24.results.toList R)
noncomputable def rk24 (L : Lp) (R : Option Res → Prop) (n : Nat) (N : St → Prop) : Kt := rk (jof E24 (lp24 n)) N (ct24 L R n)
noncomputable def rkn24 (L : Lp) (R : Option Res → Prop) (n : Nat) (N : St → Prop) (m : Nat) (N2 : St → Prop) : Kt := rk (jof E24 (lp24 m)) N2 (contOf E24 G24 L m (lp24 n) (rk24 L R n N))
noncomputable def LOOPN24 (L : Lp) (R : Option Res → Prop) (n : Nat) (N : St → Prop) (m : Nat) (st : St) : Prop := L (lp24 m) st (contOf E24 G24 L m (lp24 n) (rk24 L R n N))
noncomputable def LOOP24 (L : Lp) (R : Option Res → Prop) (n : Nat) (st : St) : Prop := L (lp24 n) st (ct24 L R n)
theorem hg24 : HG Tryd.prog G24 := (hg_cons h85 hg_nil)
theorem okf24 : Ok Tryd.prog E24 := ok0.of Tryd.f24
theorem e24 (L : Lp) (R : Option Res → Prop) (xs : List (Elem kb)) (l : Int) : (bodyP E0 G24 L Tryd.f24 [.agg [.rsl kb xs], .val (.int .i64 l)] [] R) = (
    br (inBs xs && inL l) (br (decide (szR l (szBs xs) < 0)) (R (some { av := vI (-1), obs := [], outs := [] })) (R (some { av := vI (szR l (szBs xs)), obs := [], outs := [] }))) False) := by kernel_rfl
theorem h24 : G1Ok Tryd.prog 24 g24 := by
  intro args obs k h
  unfold g24 at h
  split at h
  · rename_i k xs l
    obtain ⟨hp, h⟩ := br_and h
    refine ⟨_, ctr_fn ok0 hg24 Tryd.func24 (by kernel_rfl) (by kernel_rfl) (by kernel_rfl) fun C => ?_, h⟩
    rw [e24]
    refine br_t hp (br_dec (fun h2 => ?_) (fun h2 => ?_))
    · show _ = _
      rw [szR_neg (szR_lt0 h2)]
    · rfl
  · exact h.elim
end Go.Proofs.YtljilcingbohkabDoor.Ev

