/- The law of DdtText: lists of dedup entries. -/
import Derived.Test.YtkjnijddbiconaaGreatDoorDP
namespace Go.Proofs.YtkjnijddbiconaaGreatDoor.Ev
open Go
set_option linter.unusedVariables false
set_option linter.unusedSimpArgs false
set_option maxRecDepth 100000
def rows3 (a : Elem k3) : List AV := [.val (.int .i64 a.1), .val (.int .i64 a.2.1), .val (.int .i64 a.2.2.1)]
def within (a b c : Int) : Bool := decide (b ≤ a) && decide (a ≤ c)
def entryOk (a : Elem k3) : Bool := within a.1 0 65520 && within a.2.1 1 119 && within a.2.2.1 1 1000
def g50 : G1
  | [.rsl [.int .i64, .int .i64, .int .i64] xs, .val (.int .i64 l)], [], k =>
    br (decide (IntKind.i64.wrap (l - xs.length) < 0)) (k ⟨.val (.int .i64 (-1)), [], []⟩) (k ⟨.val (.int .i64 (IntKind.i64.wrap (l - xs.length))), [], []⟩)
  | _, _, _ => False
def g127 : G1
  | [.agg [.val (.int .i64 a), .val (.int .i64 b), .val (.int .i64 c)]], [], k => k ⟨.agg [.val (.int .i64 a), .val (.int .i64 b), .val (.int .i64 c)], [], []⟩
  | _, _, _ => False
def g186 : G1
  | [.agg [.val (.int .i64 a), .val (.int .i64 b), .val (.int .i64 c)]], [], k => k ⟨.val (.bool (entryOk (a, b, c, ()))), [], []⟩
  | _, _, _ => False
def g140 : G1
  | [.agg [.val (.int .i64 a), .val (.int .i64 b), .val (.int .i64 c)], .agg [.val (.int .i64 a'), .val (.int .i64 b'), .val (.int .i64 c')]], [], k => k ⟨.val (.bool (a == a' && b == b' && c == c')), [], []⟩
  | _, _, _ => False
def at3 (xs : List (Elem k3)) (i : Nat) : Elem k3 := xs.getD i (edflt k3)
def okAt (xs : List (Elem k3)) (i : Nat) : Bool := entryOk (at3 xs i) && (i == 0 || decide ((at3 xs (i - 1)).2.1 < (at3 xs i).2.1))
def ddtOk (xs : List (Elem k3)) : Bool := decide (xs.length ≤ 48) && (List.range xs.length).all (okAt xs)
def eq3 (a b : Elem k3) : Bool := a.1 == b.1 && a.2.1 == b.2.1 && a.2.2.1 == b.2.2.1
def eqF (xs ys : List (Elem k3)) : Bool := decide (xs.length = ys.length) && (List.range xs.length).all fun i => eq3 (at3 xs i) (at3 ys i)
def g55 : G1
  | [.rsl [.int .i64, .int .i64, .int .i64] xs], [], k => br (decide (xs.length ≤ 1048576)) (k ⟨.ows 0, [.row [.int .i64, .int .i64, .int .i64] xs], []⟩) False
  | _, _, _ => False
def g112 : G1
  | [.rsl [.int .i64, .int .i64, .int .i64] xs], [], k => br (decide (xs.length ≤ 1048576)) (k ⟨.val (.bool (ddtOk xs)), [], []⟩) False
  | _, _, _ => False
def g64 : G1
  | [.rsl [.int .i64, .int .i64, .int .i64] xs, .rsl [.int .i64, .int .i64, .int .i64] ys], [], k => br (decide (xs.length ≤ 1048576)) (k ⟨.val (.bool (eqF xs ys)), [], []⟩) False
  | _, _, _ => False
theorem e50 (L : Lp) (R : Option Res → Prop) (xs : List (Elem k3)) (l : Int) : (bodyP E0 (gk []) L Tryz.f50 [.rsl k3 xs, .val (.int .i64 l)] [] R) = (
    br (decide (IntKind.i64.wrap (l - (↑xs.length : Int)) < 0)) (R (some { av := vI (-1), obs := [], outs := [] })) (R (some { av := vI (IntKind.i64.wrap (l - (↑xs.length : Int))), obs := [], outs := [] }))) := by kernel_rfl
theorem e127 (L : Lp) (R : Option Res → Prop) (a b c : Int) : (bodyP E0 (gk []) L Tryz.f127 [.agg [.val (.int .i64 a), .val (.int .i64 b), .val (.int .i64 c)]] [] R) = (
    R (some { av := AV.agg [vI a, vI b, vI c], obs := [], outs := [] })) := by kernel_rfl
theorem e186 (L : Lp) (R : Option Res → Prop) (a b c : Int) : (bodyP E0 (gk [(129, g129)]) L Tryz.f186 [.agg [.val (.int .i64 a), .val (.int .i64 b), .val (.int .i64 c)]] [] R) = (
    br (decide (0 ≤ a) && decide (a ≤ 65520)) (br (decide (1 ≤ b) && decide (b ≤ 119)) (R (some { av := vB (decide (1 ≤ c) && decide (c ≤ 1000)), obs := [], outs := [] })) (R (some { av := vB false, obs := [], outs := [] }))) (R (some { av := vB false, obs := [], outs := [] }))) := by kernel_rfl
theorem e120 (L : Lp) (R : Option Res → Prop) (a b c : Int) : (bodyP E0 (gk []) L Tryz.f120 [.agg [.val (.int .i64 a), .val (.int .i64 b), .val (.int .i64 c)]] [] R) = (
    br (decide (a ≥ 0)) (br (decide (a < 65521)) (br (decide (b ≥ 1)) (br (decide (b < 120)) (br (decide (c ≥ 1)) (R (some { av := vB (decide (c ≤ 1000)), obs := [], outs := [] })) (R (some { av := vB false, obs := [], outs := [] }))) (R (some { av := vB false, obs := [], outs := [] }))) (R (some { av := vB false, obs := [], outs := [] }))) (R (some { av := vB false, obs := [], outs := [] }))) (R (some { av := vB false, obs := [], outs := [] }))) := by kernel_rfl
theorem e140 (L : Lp) (R : Option Res → Prop) (a b c a' b' c' : Int) : (bodyP E0 (gk []) L Tryz.f140 [.agg [.val (.int .i64 a), .val (.int .i64 b), .val (.int .i64 c)], .agg [.val (.int .i64 a'), .val (.int .i64 b'), .val (.int .i64 c')]] [] R) = (
    br (a != a') (R (some { av := vB false, obs := [], outs := [] })) (br (b != b') (R (some { av := vB false, obs := [], outs := [] })) (br (c != c') (R (some { av := vB false, obs := [], outs := [] })) (R (some { av := vB true, obs := [], outs := [] }))))) := by kernel_rfl
theorem h127 : G1Ok Tryz.prog 127 g127 := by
  intro args obs k h
  unfold g127 at h
  split at h
  · refine ⟨_, ctr_fn ok0 hg_nil Tryz.func127 (by kernel_rfl) (by kernel_rfl) (by kernel_rfl) fun C => ?_, h⟩
    rw [e127]
  · exact h.elim
theorem h186 : G1Ok Tryz.prog 186 g186 := by
  intro args obs k h
  unfold g186 at h
  split at h
  · refine ⟨_, ctr_fn ok0 (hg_cons h129 hg_nil) Tryz.func186 (by kernel_rfl) (by kernel_rfl) (by kernel_rfl) fun C => ?_, h⟩
    rw [e186]
    repeat' (first | refine br_intro (fun h => ?_) (fun h => ?_))
    all_goals simp [entryOk, within] at *
    all_goals grind
  · exact h.elim
theorem h120 : G1Ok Tryz.prog 120 g186 := by
  intro args obs k h
  unfold g186 at h
  split at h
  · refine ⟨_, ctr_fn ok0 hg_nil Tryz.func120 (by kernel_rfl) (by kernel_rfl) (by kernel_rfl) fun C => ?_, h⟩
    rw [e120]
    repeat' (first | refine br_intro (fun h => ?_) (fun h => ?_))
    all_goals simp [entryOk, within] at *
    all_goals grind
  · exact h.elim
theorem h140 : G1Ok Tryz.prog 140 g140 := by
  intro args obs k h
  unfold g140 at h
  split at h
  · refine ⟨_, ctr_fn ok0 hg_nil Tryz.func140 (by kernel_rfl) (by kernel_rfl) (by kernel_rfl) fun C => ?_, h⟩
    rw [e140]
    repeat' (first | refine br_intro (fun h => ?_) (fun h => ?_))
    all_goals simp at *
    all_goals grind
  · exact h.elim
theorem h50 : G1Ok Tryz.prog 50 g50 := by
  intro args obs k h
  unfold g50 at h
  split at h
  · rename_i k xs l
    have key : ∀ C, ∀ R, (decide (IntKind.i64.wrap (l - xs.length) < 0) = true → R (some ⟨.val (.int .i64 (-1)), [], []⟩)) → (decide (IntKind.i64.wrap (l - xs.length) < 0) = false → R (some ⟨.val (.int .i64 (IntKind.i64.wrap (l - xs.length))), [], []⟩)) → bodyP E0 (gk []) (LoopOk Tryz.prog C) Tryz.f50 [.rsl k3 xs, .val (.int .i64 l)] [] R := by
      intro C R h1 h2
      rw [e50]
      exact br_intro h1 h2
    cases hc : decide (IntKind.i64.wrap (l - xs.length) < 0) with
    | true =>
      rw [hc] at h
      exact ⟨_, ctr_fn ok0 hg_nil Tryz.func50 (by kernel_rfl) (by kernel_rfl) (by kernel_rfl) fun C => key C _ (fun _ => rfl) (fun h => by rw [hc] at h; cases h), h⟩
    | false =>
      rw [hc] at h
      exact ⟨_, ctr_fn ok0 hg_nil Tryz.func50 (by kernel_rfl) (by kernel_rfl) (by kernel_rfl) fun C => key C _ (fun h => by rw [hc] at h; cases h) (fun _ => rfl), h⟩
  · exact h.elim
noncomputable def E55 : Env := E0.of Tryz.f55
noncomputable def G55 : Gk := gk [(127, g127)]
noncomputable def lp55 (n : Nat) : Code := (loopOf n (codeOf Tryz.f55)).getD .skip
noncomputable def ct55 (L : Lp) (R : Option Res → Prop) (n : Nat) : Kt := contOf E55 G55 L n (codeOf Tryz.f55) (endK E55 Tryz.f55.results.toList R)
noncomputable def rk55 (L : Lp) (R : Option Res → Prop) (n : Nat) (N : St → Prop) : Kt := rk (jof E55 (lp55 n)) N (ct55 L R n)
noncomputable def rkn55 (L : Lp) (R : Option Res → Prop) (n : Nat) (N : St → Prop) (m : Nat) (N2 : St → Prop) : Kt := rk (jof E55 (lp55 m)) N2 (contOf E55 G55 L m (lp55 n) (rk55 L R n N))
noncomputable def LOOPN55 (L : Lp) (R : Option Res → Prop) (n : Nat) (N : St → Prop) (m : Nat) (st : St) : Prop := L (lp55 m) st (contOf E55 G55 L m (lp55 n) (rk55 L R n N))
noncomputable def LOOP55 (L : Lp) (R : Option Res → Prop) (n : Nat) (st : St) : Prop := L (lp55 n) st (ct55 L R n)
theorem hg55 : HG Tryz.prog G55 := (hg_cons h127 hg_nil)
theorem okf55 : Ok Tryz.prog E55 := ok0.of Tryz.f55
theorem e55 (L : Lp) (R : Option Res → Prop) (xs : List (Elem k3)) : (bodyP E0 G55 L Tryz.f55 [.rsl k3 xs] [] R) = (
    br (decide (0 ≤ (↑xs.length : Int) ∧ (↑xs.length : Int) ≤ (↑xs.length : Int) ∧ 24 * (↑xs.length : Int) ≤ 281474976710656)) (LOOP55 L R 3 { tm := [AV.rsl k3 xs, vU, AV.ows 0, AV.ows 1, vI 0, vJ, vJ, vJ, vJ, vJ, vJ, vJ, vJ, vJ, vJ, vJ, vJ, vJ, vJ, vJ, vJ, vJ, vU], ob := [(0, AO.row k3 []), (1, AO.row k3 (List.replicate (↑xs.length : Int).toNat (edflt k3)))], nx := 1000000, ps := [] }) False) := by kernel_rfl
def st55 (xs : List (Elem k3)) (i : Int) (ys : List (Elem k3)) : St :=  ⟨[AV.rsl k3 xs, vU, AV.ows 0, AV.ows 1, .val (.int .i64 i), vJ, vJ, vJ, vJ, vJ, vJ, vJ, vJ, vJ, vJ, vJ, vJ, vJ, vJ, vJ, vJ, vJ, vU], [(0, AO.row k3 []), (1, .row k3 ys)], 1000000, []⟩
theorem b55 (L : Lp) (R : Option Res → Prop) (N : St → Prop) (xs : List (Elem k3)) (i : Int) (ys : List (Elem k3)) : (evP E55 G55 L (lp55 3) (st55 xs i ys) (rk55 L R 3 N)) = (
    br (decide (i < (↑xs.length : Int))) (br (decide (0 ≤ i ∧ i < (↑xs.length : Int))) (br (decide (0 ≤ i ∧ i < (↑ys.length : Int))) (N { tm := [AV.rsl k3 xs, vU, AV.ows 0, AV.ows 1, vI (IntKind.i64.wrap (i + 1)), vJ, vJ, vJ, vJ, vJ, vJ, vJ, vJ, vJ, vJ, vJ, vJ, vJ, vJ, vJ, vJ, vJ, vU], ob := [(0, AO.row k3 []), (1, AO.row k3 (ys.set i.toNat (xs.getD i.toNat (edflt k3))))], nx := 1000000, ps := [] }) False) False) (R (some { av := AV.ows 0, obs := [AO.row k3 ys], outs := [] }))) := by kernel_rfl
noncomputable def E46 : Env := E0.of Tryz.f46
noncomputable def G46 : Gk := gk [(120, g186)]
noncomputable def lp46 (n : Nat) : Code := (loopOf n (codeOf Tryz.f46)).getD .skip
noncomputable def ct46 (L : Lp) (R : Option Res → Prop) (n : Nat) : Kt := contOf E46 G46 L n (codeOf Tryz.f46) (endK E46 Tryz.f46.results.toList R)
noncomputable def rk46 (L : Lp) (R : Option Res → Prop) (n : Nat) (N : St → Prop) : Kt := rk (jof E46 (lp46 n)) N (ct46 L R n)
noncomputable def rkn46 (L : Lp) (R : Option Res → Prop) (n : Nat) (N : St → Prop) (m : Nat) (N2 : St → Prop) : Kt := rk (jof E46 (lp46 m)) N2 (contOf E46 G46 L m (lp46 n) (rk46 L R n N))
noncomputable def LOOPN46 (L : Lp) (R : Option Res → Prop) (n : Nat) (N : St → Prop) (m : Nat) (st : St) : Prop := L (lp46 m) st (contOf E46 G46 L m (lp46 n) (rk46 L R n N))
noncomputable def LOOP46 (L : Lp) (R : Option Res → Prop) (n : Nat) (st : St) : Prop := L (lp46 n) st (ct46 L R n)
theorem hg46 : HG Tryz.prog G46 := (hg_cons h120 hg_nil)
theorem okf46 : Ok Tryz.prog E46 := ok0.of Tryz.f46
theorem e46 (L : Lp) (R : Option Res → Prop) (xs : List (Elem k3)) : (bodyP E0 G46 L Tryz.f46 [.rsl k3 xs] [] R) = (
    br (decide ((↑xs.length : Int) > 48)) (R (some { av := vB false, obs := [], outs := [] })) (LOOP46 L R 4 { tm := [AV.rsl k3 xs, vU, vB false, vI 0, vJ, vJ, vJ, vJ, vJ, vJ, vJ, vJ, vJ, vJ, vJ, vJ, vJ, vJ, vJ, vJ, vJ, vJ, vJ, vJ, vJ, vJ, vJ, vJ, vJ, vJ, vJ, vJ, vJ, vJ, vJ, vJ, vJ], ob := [], nx := 1000000, ps := [] })) := by kernel_rfl
def st46 (xs : List (Elem k3)) (i : Int) : St :=  ⟨[AV.rsl k3 xs, vU, vB false, .val (.int .i64 i), vJ, vJ, vJ, vJ, vJ, vJ, vJ, vJ, vJ, vJ, vJ, vJ, vJ, vJ, vJ, vJ, vJ, vJ, vJ, vJ, vJ, vJ, vJ, vJ, vJ, vJ, vJ, vJ, vJ, vJ, vJ, vJ, vJ], [], 1000000, []⟩
theorem b46 (L : Lp) (R : Option Res → Prop) (N : St → Prop) (xs : List (Elem k3)) (i : Int) : (evP E46 G46 L (lp46 4) (st46 xs i) (rk46 L R 4 N)) = (
    br (decide (i < (↑xs.length : Int))) (br (decide (0 ≤ i ∧ i < (↑xs.length : Int))) (br (!entryOk (xs.getD i.toNat (edflt k3))) (R (some { av := vB false, obs := [], outs := [] })) (br (decide (i > 0)) (br (decide (0 ≤ i ∧ i < (↑xs.length : Int))) (br (decide (0 ≤ IntKind.i64.wrap (i - 1) ∧ IntKind.i64.wrap (i - 1) < (↑xs.length : Int))) (br (decide ((xs.getD i.toNat (edflt k3)).snd.fst ≤ (xs.getD (IntKind.i64.wrap (i - 1)).toNat (edflt k3)).snd.fst)) (R (some { av := vB false, obs := [], outs := [] })) (N { tm := [AV.rsl k3 xs, vU, vB false, vI (IntKind.i64.wrap (i + 1)), vJ, vJ, vJ, vJ, vJ, vJ, vJ, vJ, vJ, vJ, vJ, vJ, vJ, vJ, vJ, vJ, vJ, vJ, vJ, vJ, vJ, vJ, vJ, vJ, vJ, vJ, vJ, vJ, vJ, vJ, vJ, vJ, vJ], ob := [], nx := 1000000, ps := [] })) False) False) (N { tm := [AV.rsl k3 xs, vU, vB false, vI (IntKind.i64.wrap (i + 1)), vJ, vJ, vJ, vJ, vJ, vJ, vJ, vJ, vJ, vJ, vJ, vJ, vJ, vJ, vJ, vJ, vJ, vJ, vJ, vJ, vJ, vJ, vJ, vJ, vJ, vJ, vJ, vJ, vJ, vJ, vJ, vJ, vJ], ob := [], nx := 1000000, ps := [] }))) False) (R (some { av := vB true, obs := [], outs := [] }))) := by kernel_rfl
noncomputable def E112 : Env := E0.of Tryz.f112
noncomputable def G112 : Gk := gk [(186, g186)]
noncomputable def lp112 (n : Nat) : Code := (loopOf n (codeOf Tryz.f112)).getD .skip
noncomputable def ct112 (L : Lp) (R : Option Res → Prop) (n : Nat) : Kt := contOf E112 G112 L n (codeOf Tryz.f112) (endK E112 Tryz.f112.results.toList R)
noncomputable def rk112 (L : Lp) (R : Option Res → Prop) (n : Nat) (N : St → Prop) : Kt := rk (jof E112 (lp112 n)) N (ct112 L R n)
noncomputable def rkn112 (L : Lp) (R : Option Res → Prop) (n : Nat) (N : St → Prop) (m : Nat) (N2 : St → Prop) : Kt := rk (jof E112 (lp112 m)) N2 (contOf E112 G112 L m (lp112 n) (rk112 L R n N))
noncomputable def LOOPN112 (L : Lp) (R : Option Res → Prop) (n : Nat) (N : St → Prop) (m : Nat) (st : St) : Prop := L (lp112 m) st (contOf E112 G112 L m (lp112 n) (rk112 L R n N))
noncomputable def LOOP112 (L : Lp) (R : Option Res → Prop) (n : Nat) (st : St) : Prop := L (lp112 n) st (ct112 L R n)
theorem hg112 : HG Tryz.prog G112 := (hg_cons h186 hg_nil)
theorem okf112 : Ok Tryz.prog E112 := ok0.of Tryz.f112
theorem e112 (L : Lp) (R : Option Res → Prop) (xs : List (Elem k3)) : (bodyP E0 G112 L Tryz.f112 [.rsl k3 xs] [] R) = (
    LOOP112 L R 2 { tm := [AV.rsl k3 xs, vU, vB false, vJ, vJ, AV.rsl k3 xs, vI (↑xs.length : Int), vI 0, vJ, vJ, vJ, vJ, vJ, vJ, vJ, vJ, vJ, vJ, vJ, vJ, vJ, vJ, vJ, vJ, vJ, vJ, vJ, vJ, vJ, vJ, vJ, vU, vU, vU], ob := [], nx := 1000000, ps := [] }) := by kernel_rfl
def st112 (xs : List (Elem k3)) (i : Int) : St :=  ⟨[AV.rsl k3 xs, vU, vB false, vJ, vJ, AV.rsl k3 xs, vI (↑xs.length : Int), .val (.int .i64 i), vJ, vJ, vJ, vJ, vJ, vJ, vJ, vJ, vJ, vJ, vJ, vJ, vJ, vJ, vJ, vJ, vJ, vJ, vJ, vJ, vJ, vJ, vJ, vU, vU, vU], [], 1000000, []⟩
theorem b112 (L : Lp) (R : Option Res → Prop) (N : St → Prop) (xs : List (Elem k3)) (i : Int) : (evP E112 G112 L (lp112 2) (st112 xs i) (rk112 L R 2 N)) = (
    br (decide (i < (↑xs.length : Int))) (br (decide (0 ≤ i ∧ i < (↑xs.length : Int))) (br (!entryOk (xs.getD i.toNat (edflt k3))) (R (some { av := vB false, obs := [], outs := [] })) (br (decide (i > 0)) (br (decide (0 ≤ IntKind.i64.wrap (i - 1) ∧ IntKind.i64.wrap (i - 1) < (↑xs.length : Int))) (br (decide ((xs.getD (IntKind.i64.wrap (i - 1)).toNat (edflt k3)).snd.fst ≥ (xs.getD i.toNat (edflt k3)).snd.fst)) (R (some { av := vB false, obs := [], outs := [] })) (N { tm := [AV.rsl k3 xs, vU, vB false, vJ, vJ, AV.rsl k3 xs, vI (↑xs.length : Int), vI (IntKind.i64.wrap (i + 1)), vJ, vJ, vJ, vJ, vJ, vJ, vJ, vJ, vJ, vJ, vJ, vJ, vJ, vJ, vJ, vJ, vJ, vJ, vJ, vJ, vJ, vJ, vJ, vU, vU, vU], ob := [], nx := 1000000, ps := [] })) False) (N { tm := [AV.rsl k3 xs, vU, vB false, vJ, vJ, AV.rsl k3 xs, vI (↑xs.length : Int), vI (IntKind.i64.wrap (i + 1)), vJ, vJ, vJ, vJ, vJ, vJ, vJ, vJ, vJ, vJ, vJ, vJ, vJ, vJ, vJ, vJ, vJ, vJ, vJ, vJ, vJ, vJ, vJ, vU, vU, vU], ob := [], nx := 1000000, ps := [] }))) False) (R (some { av := vB (decide ((↑xs.length : Int) ≤ 48)), obs := [], outs := [] }))) := by kernel_rfl
noncomputable def E64 : Env := E0.of Tryz.f64
noncomputable def G64 : Gk := gk [(140, g140)]
noncomputable def lp64 (n : Nat) : Code := (loopOf n (codeOf Tryz.f64)).getD .skip
noncomputable def ct64 (L : Lp) (R : Option Res → Prop) (n : Nat) : Kt := contOf E64 G64 L n (codeOf Tryz.f64) (endK E64 Tryz.f64.results.toList R)
noncomputable def rk64 (L : Lp) (R : Option Res → Prop) (n : Nat) (N : St → Prop) : Kt := rk (jof E64 (lp64 n)) N (ct64 L R n)
noncomputable def rkn64 (L : Lp) (R : Option Res → Prop) (n : Nat) (N : St → Prop) (m : Nat) (N2 : St → Prop) : Kt := rk (jof E64 (lp64 m)) N2 (contOf E64 G64 L m (lp64 n) (rk64 L R n N))
noncomputable def LOOPN64 (L : Lp) (R : Option Res → Prop) (n : Nat) (N : St → Prop) (m : Nat) (st : St) : Prop := L (lp64 m) st (contOf E64 G64 L m (lp64 n) (rk64 L R n N))
noncomputable def LOOP64 (L : Lp) (R : Option Res → Prop) (n : Nat) (st : St) : Prop := L (lp64 n) st (ct64 L R n)
theorem hg64 : HG Tryz.prog G64 := (hg_cons h140 hg_nil)
theorem okf64 : Ok Tryz.prog E64 := ok0.of Tryz.f64
theorem e64 (L : Lp) (R : Option Res → Prop) (xs ys : List (Elem k3)) : (bodyP E0 G64 L Tryz.f64 [.rsl k3 xs, .rsl k3 ys] [] R) = (
    br ((↑xs.length : Int) != (↑ys.length : Int)) (R (some { av := vB false, obs := [], outs := [] })) (LOOP64 L R 4 { tm := [AV.rsl k3 xs, AV.rsl k3 ys, vU, vU, vB false, vI 0, vJ, vJ, vJ, vJ, vJ, vJ, vJ, vJ, vJ, vJ, vJ, vJ, vJ, vJ, vJ, vJ, vJ, vJ, vJ, vJ, vJ], ob := [], nx := 1000000, ps := [] })) := by kernel_rfl
def st64 (xs ys : List (Elem k3)) (i : Int) : St :=  ⟨[AV.rsl k3 xs, AV.rsl k3 ys, vU, vU, vB false, .val (.int .i64 i), vJ, vJ, vJ, vJ, vJ, vJ, vJ, vJ, vJ, vJ, vJ, vJ, vJ, vJ, vJ, vJ, vJ, vJ, vJ, vJ, vJ], [], 1000000, []⟩
theorem b64 (L : Lp) (R : Option Res → Prop) (N : St → Prop) (xs ys : List (Elem k3)) (i : Int) : (evP E64 G64 L (lp64 4) (st64 xs ys i) (rk64 L R 4 N)) = (
    br (decide (i < (↑xs.length : Int))) (br (decide (0 ≤ i ∧ i < (↑xs.length : Int))) (br (decide (0 ≤ i ∧ i < (↑ys.length : Int))) (br (!((xs.getD i.toNat (edflt k3)).fst == (ys.getD i.toNat (edflt k3)).fst && (xs.getD i.toNat (edflt k3)).snd.fst == (ys.getD i.toNat (edflt k3)).snd.fst && (xs.getD i.toNat (edflt k3)).snd.snd.fst == (ys.getD i.toNat (edflt k3)).snd.snd.fst)) (R (some { av := vB false, obs := [], outs := [] })) (N { tm := [AV.rsl k3 xs, AV.rsl k3 ys, vU, vU, vB false, vI (IntKind.i64.wrap (i + 1)), vJ, vJ, vJ, vJ, vJ, vJ, vJ, vJ, vJ, vJ, vJ, vJ, vJ, vJ, vJ, vJ, vJ, vJ, vJ, vJ, vJ], ob := [], nx := 1000000, ps := [] })) False) False) (R (some { av := vB true, obs := [], outs := [] }))) := by kernel_rfl
theorem h112 : G1Ok Tryz.prog 112 g112 := by
  intro args obs k h
  unfold g112 at h
  split at h
  · rename_i k xs
    obtain ⟨hlen, h⟩ := br_and h
    simp at hlen
    refine ⟨_, ctr_fn ok0 hg112 Tryz.func112 (by kernel_rfl) (by kernel_rfl) (by kernel_rfl) fun C => ?_, h⟩
    rw [e112]
    exact loopR okf112 hg112 (ι := {i : Int // 0 ≤ i ∧ i ≤ xs.length ∧ ∀ j : Nat, (j : Int) < i → okAt xs j = true}) (fun i => st112 xs i.1) (fun i => (xs.length - i.1).toNat) (fun ⟨i, h0, h1, hall⟩ => by
      show evP E112 G112 _ (lp112 2) (st112 xs i) (rk112 _ _ 2 _)
      rw [b112]
      have hw1 : IntKind.i64.wrap (i + 1) = i + 1 := wrap_id (by omega) (by omega)
      have hw2 : IntKind.i64.wrap (i - 1) = i - 1 := wrap_id (by omega) (by omega)
      rw [hw1, hw2]
      refine br_intro (fun h2 => ?_) (fun h2 => ?_)
      · simp at h2
        have hi : ((i.toNat : Nat) : Int) = i := by omega
        have bad : okAt xs i.toNat = false → ddtOk xs = false := by
          intro hb
          have : (List.range xs.length).all (okAt xs) = false := by
            rw [List.all_eq_false]
            exact ⟨i.toNat, by simp; omega, by simp [hb]⟩
          simp [ddtOk, this]
        have next : okAt xs i.toNat = true → ∃ j : {i : Int // 0 ≤ i ∧ i ≤ xs.length ∧ ∀ j : Nat, (j : Int) < i → okAt xs j = true}, st112 xs (i + 1) = st112 xs j.1 ∧ (xs.length - j.1).toNat < (xs.length - i).toNat := by
          intro hok
          refine ⟨⟨i + 1, by omega, by omega, fun j hj => ?_⟩, rfl, by show (xs.length - (i + 1)).toNat < _; omega⟩
          by_cases e : (j : Int) < i
          · exact hall j e
          · have : j = i.toNat := by omega
            rw [this]; exact hok
        refine br_intro (fun _ => ?_) (fun h3 => by simp at h3; omega)
        refine br_intro (fun h3 => ?_) (fun h3 => ?_)
        · show _ = _
          rw [bad (by unfold okAt at3; simp at h3; simp [h3])]
        · simp at h3
          refine br_intro (fun h4 => ?_) (fun h4 => ?_)
          · simp at h4
            have hj : (i - 1).toNat = i.toNat - 1 := by omega
            have hne : ¬ i.toNat = 0 := by omega
            refine br_intro (fun _ => ?_) (fun h5 => by simp at h5; omega)
            refine br_intro (fun h5 => ?_) (fun h5 => ?_)
            · show _ = _
              rw [bad (by unfold okAt at3; rw [hj] at h5; simp at h5; simp [hne]; intro _; omega)]
            · exact next (by unfold okAt at3; rw [hj] at h5; simp at h5; simp [hne, h3]; omega)
          · simp at h4
            have h0' : i.toNat = 0 := by omega
            exact next (by unfold okAt at3; simp [h0'] at h3 ⊢; simp [h3])
      · simp at h2
        show _ = _
        have : (List.range xs.length).all (okAt xs) = true := by
          rw [List.all_eq_true]
          intro j hj
          exact hall j (by simp at hj; omega)
        have e : decide ((xs.length : Int) ≤ 48) = decide (xs.length ≤ 48) := by
          apply decide_eq_decide.2; omega
        rw [e]
        simp [ddtOk, this]) ⟨0, by omega, by omega, fun j hj => by omega⟩
  · exact h.elim
theorem h46 : G1Ok Tryz.prog 46 g112 := by
  intro args obs k h
  unfold g112 at h
  split at h
  · rename_i k xs
    obtain ⟨hlen, h⟩ := br_and h
    simp at hlen
    refine ⟨_, ctr_fn ok0 hg46 Tryz.func46 (by kernel_rfl) (by kernel_rfl) (by kernel_rfl) fun C => ?_, h⟩
    rw [e46]
    refine br_intro (fun hb => ?_) (fun hb => ?_)
    · simp at hb
      have : ddtOk xs = false := by simp [ddtOk]; omega
      rw [this]
    have h222 : xs.length ≤ 48 := by simp at hb; omega
    have hb' : decide ((xs.length : Int) > 48) = false := hb
    exact loopR okf46 hg46 (ι := {i : Int // 0 ≤ i ∧ i ≤ xs.length ∧ ∀ j : Nat, (j : Int) < i → okAt xs j = true}) (fun i => st46 xs i.1) (fun i => (xs.length - i.1).toNat) (fun ⟨i, h0, h1, hall⟩ => by
      show evP E46 G46 _ (lp46 4) (st46 xs i) (rk46 _ _ 4 _)
      rw [b46]
      have hw1 : IntKind.i64.wrap (i + 1) = i + 1 := wrap_id (by omega) (by omega)
      have hw2 : IntKind.i64.wrap (i - 1) = i - 1 := wrap_id (by omega) (by omega)
      rw [hw1, hw2]
      refine br_intro (fun h2 => ?_) (fun h2 => ?_)
      · simp at h2
        have hi : ((i.toNat : Nat) : Int) = i := by omega
        have bad : okAt xs i.toNat = false → ddtOk xs = false := by
          intro hb
          have : (List.range xs.length).all (okAt xs) = false := by
            rw [List.all_eq_false]
            exact ⟨i.toNat, by simp; omega, by simp [hb]⟩
          simp [ddtOk, this]
        have next : okAt xs i.toNat = true → ∃ j : {i : Int // 0 ≤ i ∧ i ≤ xs.length ∧ ∀ j : Nat, (j : Int) < i → okAt xs j = true}, st46 xs (i + 1) = st46 xs j.1 ∧ (xs.length - j.1).toNat < (xs.length - i).toNat := by
          intro hok
          refine ⟨⟨i + 1, by omega, by omega, fun j hj => ?_⟩, rfl, by show (xs.length - (i + 1)).toNat < _; omega⟩
          by_cases e : (j : Int) < i
          · exact hall j e
          · have : j = i.toNat := by omega
            rw [this]; exact hok
        refine br_intro (fun _ => ?_) (fun h3 => by simp at h3; omega)
        refine br_intro (fun h3 => ?_) (fun h3 => ?_)
        · show _ = _
          rw [bad (by unfold okAt at3; simp at h3; simp [h3])]
        · simp at h3
          refine br_intro (fun h4 => ?_) (fun h4 => ?_)
          · simp at h4
            have hj : (i - 1).toNat = i.toNat - 1 := by omega
            have hne : ¬ i.toNat = 0 := by omega
            refine br_intro (fun _ => ?_) (fun h5 => by simp at h5; omega)
            refine br_intro (fun _ => ?_) (fun h5 => by simp at h5; omega)
            refine br_intro (fun h5 => ?_) (fun h5 => ?_)
            · show _ = _
              rw [bad (by unfold okAt at3; rw [hj] at h5; simp at h5; simp [hne]; intro _; omega)]
            · exact next (by unfold okAt at3; rw [hj] at h5; simp at h5; simp [hne, h3]; omega)
          · simp at h4
            have h0' : i.toNat = 0 := by omega
            exact next (by unfold okAt at3; simp [h0'] at h3 ⊢; simp [h3])
      · simp at h2
        show _ = _
        have : (List.range xs.length).all (okAt xs) = true := by
          rw [List.all_eq_true]
          intro j hj
          exact hall j (by simp at hj; omega)
        simp [ddtOk, this, h222]) ⟨0, by omega, by omega, fun j hj => by omega⟩
  · exact h.elim
theorem h64 : G1Ok Tryz.prog 64 g64 := by
  intro args obs k h
  unfold g64 at h
  split at h
  · rename_i k xs ys
    obtain ⟨hlen, h⟩ := br_and h
    simp at hlen
    refine ⟨_, ctr_fn ok0 hg64 Tryz.func64 (by kernel_rfl) (by kernel_rfl) (by kernel_rfl) fun C => ?_, h⟩
    rw [e64]
    refine br_intro (fun hb => ?_) (fun hb => ?_)
    · simp at hb
      have : eqF xs ys = false := by simp [eqF]; omega
      rw [this]
    have hl : xs.length = ys.length := by simp at hb; omega
    exact loopR okf64 hg64 (ι := {i : Int // 0 ≤ i ∧ i ≤ xs.length ∧ ∀ j : Nat, (j : Int) < i → eq3 (at3 xs j) (at3 ys j) = true}) (fun i => st64 xs ys i.1) (fun i => (xs.length - i.1).toNat) (fun ⟨i, h0, h1, hall⟩ => by
      show evP E64 G64 _ (lp64 4) (st64 xs ys i) (rk64 _ _ 4 _)
      rw [b64]
      have hw1 : IntKind.i64.wrap (i + 1) = i + 1 := wrap_id (by omega) (by omega)
      rw [hw1]
      refine br_intro (fun h2 => ?_) (fun h2 => ?_)
      · simp at h2
        refine br_intro (fun _ => ?_) (fun h3 => by simp at h3; omega)
        refine br_intro (fun _ => ?_) (fun h3 => by simp at h3; omega)
        refine br_intro (fun h3 => ?_) (fun h3 => ?_)
        · show _ = _
          have hb : eq3 (at3 xs i.toNat) (at3 ys i.toNat) = false := by
            rw [Bool.not_eq_true'] at h3
            exact h3
          have : eqF xs ys = false := by
            have : ((List.range xs.length).all fun i => eq3 (at3 xs i) (at3 ys i)) = false := by
              rw [List.all_eq_false]
              exact ⟨i.toNat, by simp; omega, by simp [hb]⟩
            simp [eqF, this]
          rw [this]
        · have hok : eq3 (at3 xs i.toNat) (at3 ys i.toNat) = true := by
            rw [Bool.not_eq_false'] at h3
            exact h3
          refine ⟨⟨i + 1, by omega, by omega, fun j hj => ?_⟩, rfl, by show (xs.length - (i + 1)).toNat < (xs.length - i).toNat; omega⟩
          by_cases e : (j : Int) < i
          · exact hall j e
          · have : j = i.toNat := by omega
            rw [this]; exact hok
      · simp at h2
        show _ = _
        have : ((List.range xs.length).all fun i => eq3 (at3 xs i) (at3 ys i)) = true := by
          rw [List.all_eq_true]
          intro j hj
          exact hall j (by simp at hj; omega)
        unfold eqF
        rw [this]
        simp [hl]) ⟨0, by omega, by omega, fun j hj => by omega⟩
  · exact h.elim
theorem take_set_next {α : Type} (xs ys : List α) (n : Nat) (e : α) (hx : xs[n]? = some e) (hy : ys.take n = xs.take n) (hl : n < ys.length) : (ys.set n e).take (n + 1) = xs.take (n + 1) := by
  rw [List.take_add_one, List.take_add_one, List.take_set_of_le (Nat.le_refl n), hy, List.getElem?_set_self hl, hx]
theorem h55 : G1Ok Tryz.prog 55 g55 := by
  intro args obs k h
  unfold g55 at h
  split at h
  · rename_i k xs
    obtain ⟨hlen, h⟩ := br_and h
    simp at hlen
    refine ⟨_, ctr_fn ok0 hg55 Tryz.func55 (by kernel_rfl) (by kernel_rfl) (by kernel_rfl) fun C => ?_, h⟩
    rw [e55]
    refine br_intro (fun hb => ?_) (fun hb => by simp at hb; omega)
    exact loopR okf55 hg55 (ι := {p : Int × List (Elem k3) // 0 ≤ p.1 ∧ p.1 ≤ xs.length ∧ p.2.length = xs.length ∧ p.2.take p.1.toNat = xs.take p.1.toNat}) (fun p => st55 xs p.1.1 p.1.2) (fun p => (xs.length - p.1.1).toNat) (fun ⟨(i, ys), h0, h1, hl, ht⟩ => by
      show evP E55 G55 _ (lp55 3) (st55 xs i ys) (rk55 _ _ 3 _)
      rw [b55]
      simp only at h0 h1 hl ht
      have hw1 : IntKind.i64.wrap (i + 1) = i + 1 := wrap_id (by omega) (by omega)
      rw [hw1]
      refine br_intro (fun h2 => ?_) (fun h2 => ?_)
      · simp at h2
        refine br_intro (fun _ => ?_) (fun h3 => by simp at h3; omega)
        refine br_intro (fun _ => ?_) (fun h3 => by simp at h3; omega)
        refine ⟨⟨(i + 1, ys.set i.toNat (at3 xs i.toNat)), by show 0 ≤ i + 1; omega, by show i + 1 ≤ _; omega, by simp [hl], ?_⟩, rfl, by show (xs.length - (i + 1)).toNat < (xs.length - i).toNat; omega⟩
        have e : (i + 1).toNat = i.toNat + 1 := by omega
        show (ys.set i.toNat _).take (i + 1).toNat = xs.take (i + 1).toNat
        rw [e]
        have hi : i.toNat < xs.length := by omega
        exact take_set_next xs ys i.toNat _ (by unfold at3; rw [List.getD_eq_getElem?_getD, List.getElem?_eq_getElem hi]; rfl) ht (by omega)
      · simp at h2
        show _ = _
        have e : i.toNat = xs.length := by omega
        rw [e, List.take_of_length_le (by omega), List.take_of_length_le (by omega)] at ht
        rw [ht]) ⟨(0, List.replicate xs.length (0, 0, 0, ())), by simp, by simp, by simp, by simp⟩
  · exact h.elim
end Go.Proofs.YtkjnijddbiconaaGreatDoor.Ev

