/- The law of DdtText: lists of dedup entries. -/
import Derived.Test.YtljilcingbohkaaDoorD4
namespace Go.Proofs.YtljilcingbohkaaDoor.Ev
open Go
set_option linter.unusedVariables false
set_option linter.unusedSimpArgs false
set_option maxRecDepth 100000
def rows3 (a : Elem k3) : List AV := [.val (.int .i64 a.1), .val (.int .i64 a.2.1), .val (.int .i64 a.2.2.1)]
def within (a b c : Int) : Bool := decide (b ≤ a) && decide (a ≤ c)
def entryOk (a : Elem k3) : Bool := within a.1 0 65520 && within a.2.1 1 119 && within a.2.2.1 1 1000
def g27 : G1
  | [.rsl [.int .i64, .int .i64, .int .i64] xs, .val (.int .i64 l)], [], k =>
    br (decide (IntKind.i64.wrap (l - xs.length) < 0)) (k ⟨.val (.int .i64 (-1)), [], []⟩) (k ⟨.val (.int .i64 (IntKind.i64.wrap (l - xs.length))), [], []⟩)
  | _, _, _ => False
def g57 : G1
  | [.agg [.val (.int .i64 a), .val (.int .i64 b), .val (.int .i64 c)]], [], k => k ⟨.agg [.val (.int .i64 a), .val (.int .i64 b), .val (.int .i64 c)], [], []⟩
  | _, _, _ => False
def g89 : G1
  | [.agg [.val (.int .i64 a), .val (.int .i64 b), .val (.int .i64 c)]], [], k => k ⟨.val (.bool (entryOk (a, b, c, ()))), [], []⟩
  | _, _, _ => False
def g59 : G1
  | [.agg [.val (.int .i64 a), .val (.int .i64 b), .val (.int .i64 c)], .agg [.val (.int .i64 a'), .val (.int .i64 b'), .val (.int .i64 c')]], [], k => k ⟨.val (.bool (a == a' && b == b' && c == c')), [], []⟩
  | _, _, _ => False
def at3 (xs : List (Elem k3)) (i : Nat) : Elem k3 := xs.getD i (edflt k3)
def okAt (xs : List (Elem k3)) (i : Nat) : Bool := entryOk (at3 xs i) && (i == 0 || decide ((at3 xs (i - 1)).2.1 < (at3 xs i).2.1))
def ddtOk (xs : List (Elem k3)) : Bool := decide (xs.length ≤ 48) && (List.range xs.length).all (okAt xs)
def eq3 (a b : Elem k3) : Bool := a.1 == b.1 && a.2.1 == b.2.1 && a.2.2.1 == b.2.2.1
def eqF (xs ys : List (Elem k3)) : Bool := decide (xs.length = ys.length) && (List.range xs.length).all fun i => eq3 (at3 xs i) (at3 ys i)
def g29 : G1
  | [.rsl [.int .i64, .int .i64, .int .i64] xs], [], k => br (decide (xs.length ≤ 1048576)) (k ⟨.ows 0, [.row [.int .i64, .int .i64, .int .i64] xs], []⟩) False
  | _, _, _ => False
def g58 : G1
  | [.rsl [.int .i64, .int .i64, .int .i64] xs], [], k => br (decide (xs.length ≤ 1048576)) (k ⟨.val (.bool (ddtOk xs)), [], []⟩) False
  | _, _, _ => False
def g31 : G1
  | [.rsl [.int .i64, .int .i64, .int .i64] xs, .rsl [.int .i64, .int .i64, .int .i64] ys], [], k => br (decide (xs.length ≤ 1048576)) (k ⟨.val (.bool (eqF xs ys)), [], []⟩) False
  | _, _, _ => False
theorem e27 (L : Lp) (R : Option Res → Prop) (xs : List (Elem k3)) (l : Int) : (bodyP E0 (gk []) L Tryd.f27 [.rsl k3 xs, .val (.int .i64 l)] [] R) = (
    br (decide (IntKind.i64.wrap (l - (↑xs.length : Int)) < 0)) (R (some { av := vI (-1), obs := [], outs := [] })) (R (some { av := vI (IntKind.i64.wrap (l - (↑xs.length : Int))), obs := [], outs := [] }))) := by kernel_rfl
theorem e57 (L : Lp) (R : Option Res → Prop) (a b c : Int) : (bodyP E0 (gk []) L Tryd.f57 [.agg [.val (.int .i64 a), .val (.int .i64 b), .val (.int .i64 c)]] [] R) = (
    R (some { av := AV.agg [vI a, vI b, vI c], obs := [], outs := [] })) := by kernel_rfl
theorem e89 (L : Lp) (R : Option Res → Prop) (a b c : Int) : (bodyP E0 (gk [(47, g47)]) L Tryd.f89 [.agg [.val (.int .i64 a), .val (.int .i64 b), .val (.int .i64 c)]] [] R) = (
    br (decide (0 ≤ a) && decide (a ≤ 65520)) (br (decide (1 ≤ b) && decide (b ≤ 119)) (R (some { av := vB (decide (1 ≤ c) && decide (c ≤ 1000)), obs := [], outs := [] })) (R (some { av := vB false, obs := [], outs := [] }))) (R (some { av := vB false, obs := [], outs := [] }))) := by kernel_rfl
theorem e88 (L : Lp) (R : Option Res → Prop) (a b c : Int) : (bodyP E0 (gk []) L Tryd.f88 [.agg [.val (.int .i64 a), .val (.int .i64 b), .val (.int .i64 c)]] [] R) = (
    br (decide (a ≥ 0)) (br (decide (a < 65521)) (br (decide (b ≥ 1)) (br (decide (b < 120)) (br (decide (c ≥ 1)) (R (some { av := vB (decide (c ≤ 1000)), obs := [], outs := [] })) (R (some { av := vB false, obs := [], outs := [] }))) (R (some { av := vB false, obs := [], outs := [] }))) (R (some { av := vB false, obs := [], outs := [] }))) (R (some { av := vB false, obs := [], outs := [] }))) (R (some { av := vB false, obs := [], outs := [] }))) := by kernel_rfl
theorem e59 (L : Lp) (R : Option Res → Prop) (a b c a' b' c' : Int) : (bodyP E0 (gk []) L Tryd.f59 [.agg [.val (.int .i64 a), .val (.int .i64 b), .val (.int .i64 c)], .agg [.val (.int .i64 a'), .val (.int .i64 b'), .val (.int .i64 c')]] [] R) = (
    br (a != a') (R (some { av := vB false, obs := [], outs := [] })) (br (b != b') (R (some { av := vB false, obs := [], outs := [] })) (br (c != c') (R (some { av := vB false, obs := [], outs := [] })) (R (some { av := vB true, obs := [], outs := [] }))))) := by kernel_rfl
theorem h57 : G1Ok Tryd.prog 57 g57 := by
  intro args obs k h
  unfold g57 at h
  split at h
  · refine ⟨_, ctr_fn ok0 hg_nil Tryd.func57 (by kernel_rfl) (by kernel_rfl) (by kernel_rfl) fun C => ?_, h⟩
    rw [e57]
  · exact h.elim
theorem h89 : G1Ok Tryd.prog 89 g89 := by
  intro args obs k h
  unfold g89 at h
  split at h
  · refine ⟨_, ctr_fn ok0 (hg_cons h47 hg_nil) Tryd.func89 (by kernel_rfl) (by kernel_rfl) (by kernel_rfl) fun C => ?_, h⟩
    rw [e89]
    repeat' (first | refine br_intro (fun h => ?_) (fun h => ?_))
    all_goals simp [entryOk, within] at *
    all_goals grind
  · exact h.elim
theorem h88 : G1Ok Tryd.prog 88 g89 := by
  intro args obs k h
  unfold g89 at h
  split at h
  · refine ⟨_, ctr_fn ok0 hg_nil Tryd.func88 (by kernel_rfl) (by kernel_rfl) (by kernel_rfl) fun C => ?_, h⟩
    rw [e88]
    repeat' (first | refine br_intro (fun h => ?_) (fun h => ?_))
    all_goals simp [entryOk, within] at *
    all_goals grind
  · exact h.elim
theorem h59 : G1Ok Tryd.prog 59 g59 := by
  intro args obs k h
  unfold g59 at h
  split at h
  · refine ⟨_, ctr_fn ok0 hg_nil Tryd.func59 (by kernel_rfl) (by kernel_rfl) (by kernel_rfl) fun C => ?_, h⟩
    rw [e59]
    repeat' (first | refine br_intro (fun h => ?_) (fun h => ?_))
    all_goals simp at *
    all_goals grind
  · exact h.elim
theorem h27 : G1Ok Tryd.prog 27 g27 := by
  intro args obs k h
  unfold g27 at h
  split at h
  · rename_i k xs l
    have key : ∀ C, ∀ R, (decide (IntKind.i64.wrap (l - xs.length) < 0) = true → R (some ⟨.val (.int .i64 (-1)), [], []⟩)) → (decide (IntKind.i64.wrap (l - xs.length) < 0) = false → R (some ⟨.val (.int .i64 (IntKind.i64.wrap (l - xs.length))), [], []⟩)) → bodyP E0 (gk []) (LoopOk Tryd.prog C) Tryd.f27 [.rsl k3 xs, .val (.int .i64 l)] [] R := by
      intro C R h1 h2
      rw [e27]
      exact br_intro h1 h2
    cases hc : decide (IntKind.i64.wrap (l - xs.length) < 0) with
    | true =>
      rw [hc] at h
      exact ⟨_, ctr_fn ok0 hg_nil Tryd.func27 (by kernel_rfl) (by kernel_rfl) (by kernel_rfl) fun C => key C _ (fun _ => rfl) (fun h => by rw [hc] at h; cases h), h⟩
    | false =>
      rw [hc] at h
      exact ⟨_, ctr_fn ok0 hg_nil Tryd.func27 (by kernel_rfl) (by kernel_rfl) (by kernel_rfl) fun C => key C _ (fun h => by rw [hc] at h; cases h) (fun _ => rfl), h⟩
  · exact h.elim
noncomputable def E29 : Env := E0.of Tryd.f29
noncomputable def G29 : Gk := gk [(57, g57)]
noncomputable def lp29 (n : Nat) : Code := (loopOf n (codeOf Tryd.f29)).getD .skip
noncomputable def ct29 (L : Lp) (R : Option Res → Prop) (n : Nat) : Kt := contOf E29 G29 L n (codeOf Tryd.f29) (endK E29 Tryd.f29.results.toList R)
noncomputable def rk29 (L : Lp) (R : Option Res → Prop) (n : Nat) (N : St → Prop) : Kt := rk (jof E29 (lp29 n)) N (ct29 L R n)
noncomputable def LOOP29 (L : Lp) (R : Option Res → Prop) (n : Nat) (st : St) : Prop := L (lp29 n) st (ct29 L R n)
theorem hg29 : HG Tryd.prog G29 := (hg_cons h57 hg_nil)
theorem okf29 : Ok Tryd.prog E29 := ok0.of Tryd.f29
theorem e29 (L : Lp) (R : Option Res → Prop) (xs : List (Elem k3)) : (bodyP E0 G29 L Tryd.f29 [.rsl k3 xs] [] R) = (
    br (decide (0 ≤ (↑xs.length : Int) ∧ (↑xs.length : Int) ≤ (↑xs.length : Int) ∧ 24 * (↑xs.length : Int) ≤ 281474976710656)) (LOOP29 L R 3 { tm := [AV.rsl k3 xs, vU, AV.ows 0, AV.ows 1, vI 0, vJ, vJ, vJ, vJ, vJ, vJ, vJ, vJ, vJ, vJ, vJ, vJ, vJ, vJ, vJ, vJ, vJ, vU], ob := [(0, AO.row k3 []), (1, AO.row k3 (List.replicate (↑xs.length : Int).toNat (edflt k3)))], nx := 1000000, ps := [] }) False) := by kernel_rfl
def st29 (xs : List (Elem k3)) (i : Int) (ys : List (Elem k3)) : St :=  ⟨[AV.rsl k3 xs, vU, AV.ows 0, AV.ows 1, .val (.int .i64 i), vJ, vJ, vJ, vJ, vJ, vJ, vJ, vJ, vJ, vJ, vJ, vJ, vJ, vJ, vJ, vJ, vJ, vU], [(0, AO.row k3 []), (1, .row k3 ys)], 1000000, []⟩
theorem b29 (L : Lp) (R : Option Res → Prop) (N : St → Prop) (xs : List (Elem k3)) (i : Int) (ys : List (Elem k3)) : (evP E29 G29 L (lp29 3) (st29 xs i ys) (rk29 L R 3 N)) = (
    br (decide (i < (↑xs.length : Int))) (br (decide (0 ≤ i ∧ i < (↑xs.length : Int))) (br (decide (0 ≤ i ∧ i < (↑ys.length : Int))) (N { tm := [AV.rsl k3 xs, vU, AV.ows 0, AV.ows 1, vI (IntKind.i64.wrap (i + 1)), vJ, vJ, vJ, vJ, vJ, vJ, vJ, vJ, vJ, vJ, vJ, vJ, vJ, vJ, vJ, vJ, vJ, vU], ob := [(0, AO.row k3 []), (1, AO.row k3 (ys.set i.toNat (xs.getD i.toNat (edflt k3))))], nx := 1000000, ps := [] }) False) False) (R (some { av := AV.ows 0, obs := [AO.row k3 ys], outs := [] }))) := by kernel_rfl
noncomputable def E56 : Env := E0.of Tryd.f56
noncomputable def G56 : Gk := gk [(88, g89)]
noncomputable def lp56 (n : Nat) : Code := (loopOf n (codeOf Tryd.f56)).getD .skip
noncomputable def ct56 (L : Lp) (R : Option Res → Prop) (n : Nat) : Kt := contOf E56 G56 L n (codeOf Tryd.f56) (endK E56 Tryd.f56.results.toList R)
noncomputable def rk56 (L : Lp) (R : Option Res → Prop) (n : Nat) (N : St → Prop) : Kt := rk (jof E56 (lp56 n)) N (ct56 L R n)
noncomputable def LOOP56 (L : Lp) (R : Option Res → Prop) (n : Nat) (st : St) : Prop := L (lp56 n) st (ct56 L R n)
theorem hg56 : HG Tryd.prog G56 := (hg_cons h88 hg_nil)
theorem okf56 : Ok Tryd.prog E56 := ok0.of Tryd.f56
theorem e56 (L : Lp) (R : Option Res → Prop) (xs : List (Elem k3)) : (bodyP E0 G56 L Tryd.f56 [.rsl k3 xs] [] R) = (
    br (decide ((↑xs.length : Int) > 48)) (R (some { av := vB false, obs := [], outs := [] })) (LOOP56 L R 4 { tm := [AV.rsl k3 xs, vU, vB false, vI 0, vJ, vJ, vJ, vJ, vJ, vJ, vJ, vJ, vJ, vJ, vJ, vJ, vJ, vJ, vJ, vJ, vJ, vJ, vJ, vJ, vJ, vJ, vJ, vJ, vJ, vJ, vJ, vJ, vJ, vJ, vJ, vJ, vJ], ob := [], nx := 1000000, ps := [] })) := by kernel_rfl
def st56 (xs : List (Elem k3)) (i : Int) : St :=  ⟨[AV.rsl k3 xs, vU, vB false, .val (.int .i64 i), vJ, vJ, vJ, vJ, vJ, vJ, vJ, vJ, vJ, vJ, vJ, vJ, vJ, vJ, vJ, vJ, vJ, vJ, vJ, vJ, vJ, vJ, vJ, vJ, vJ, vJ, vJ, vJ, vJ, vJ, vJ, vJ, vJ], [], 1000000, []⟩
theorem b56 (L : Lp) (R : Option Res → Prop) (N : St → Prop) (xs : List (Elem k3)) (i : Int) : (evP E56 G56 L (lp56 4) (st56 xs i) (rk56 L R 4 N)) = (
    br (decide (i < (↑xs.length : Int))) (br (decide (0 ≤ i ∧ i < (↑xs.length : Int))) (br (!entryOk (xs.getD i.toNat (edflt k3))) (R (some { av := vB false, obs := [], outs := [] })) (br (decide (i > 0)) (br (decide (0 ≤ i ∧ i < (↑xs.length : Int))) (br (decide (0 ≤ IntKind.i64.wrap (i - 1) ∧ IntKind.i64.wrap (i - 1) < (↑xs.length : Int))) (br (decide ((xs.getD i.toNat (edflt k3)).snd.fst ≤ (xs.getD (IntKind.i64.wrap (i - 1)).toNat (edflt k3)).snd.fst)) (R (some { av := vB false, obs := [], outs := [] })) (N { tm := [AV.rsl k3 xs, vU, vB false, vI (IntKind.i64.wrap (i + 1)), vJ, vJ, vJ, vJ, vJ, vJ, vJ, vJ, vJ, vJ, vJ, vJ, vJ, vJ, vJ, vJ, vJ, vJ, vJ, vJ, vJ, vJ, vJ, vJ, vJ, vJ, vJ, vJ, vJ, vJ, vJ, vJ, vJ], ob := [], nx := 1000000, ps := [] })) False) False) (N { tm := [AV.rsl k3 xs, vU, vB false, vI (IntKind.i64.wrap (i + 1)), vJ, vJ, vJ, vJ, vJ, vJ, vJ, vJ, vJ, vJ, vJ, vJ, vJ, vJ, vJ, vJ, vJ, vJ, vJ, vJ, vJ, vJ, vJ, vJ, vJ, vJ, vJ, vJ, vJ, vJ, vJ, vJ, vJ], ob := [], nx := 1000000, ps := [] }))) False) (R (some { av := vB true, obs := [], outs := [] }))) := by kernel_rfl
noncomputable def E58 : Env := E0.of Tryd.f58
noncomputable def G58 : Gk := gk [(89, g89)]
noncomputable def lp58 (n : Nat) : Code := (loopOf n (codeOf Tryd.f58)).getD .skip
noncomputable def ct58 (L : Lp) (R : Option Res → Prop) (n : Nat) : Kt := contOf E58 G58 L n (codeOf Tryd.f58) (endK E58 Tryd.f58.results.toList R)
noncomputable def rk58 (L : Lp) (R : Option Res → Prop) (n : Nat) (N : St → Prop) : Kt := rk (jof E58 (lp58 n)) N (ct58 L R n)
noncomputable def LOOP58 (L : Lp) (R : Option Res → Prop) (n : Nat) (st : St) : Prop := L (lp58 n) st (ct58 L R n)
theorem hg58 : HG Tryd.prog G58 := (hg_cons h89 hg_nil)
theorem okf58 : Ok Tryd.prog E58 := ok0.of Tryd.f58
theorem e58 (L : Lp) (R : Option Res → Prop) (xs : List (Elem k3)) : (bodyP E0 G58 L Tryd.f58 [.rsl k3 xs] [] R) = (
    LOOP58 L R 2 { tm := [AV.rsl k3 xs, vU, vB false, vJ, vJ, AV.rsl k3 xs, vI (↑xs.length : Int), vI 0, vJ, vJ, vJ, vJ, vJ, vJ, vJ, vJ, vJ, vJ, vJ, vJ, vJ, vJ, vJ, vJ, vJ, vJ, vJ, vJ, vJ, vJ, vJ, vU, vU, vU], ob := [], nx := 1000000, ps := [] }) := by kernel_rfl
def st58 (xs : List (Elem k3)) (i : Int) : St :=  ⟨[AV.rsl k3 xs, vU, vB false, vJ, vJ, AV.rsl k3 xs, vI (↑xs.length : Int), .val (.int .i64 i), vJ, vJ, vJ, vJ, vJ, vJ, vJ, vJ, vJ, vJ, vJ, vJ, vJ, vJ, vJ, vJ, vJ, vJ, vJ, vJ, vJ, vJ, vJ, vU, vU, vU], [], 1000000, []⟩
theorem b58 (L : Lp) (R : Option Res → Prop) (N : St → Prop) (xs : List (Elem k3)) (i : Int) : (evP E58 G58 L (lp58 2) (st58 xs i) (rk58 L R 2 N)) = (
    br (decide (i < (↑xs.length : Int))) (br (decide (0 ≤ i ∧ i < (↑xs.length : Int))) (br (!entryOk (xs.getD i.toNat (edflt k3))) (R (some { av := vB false, obs := [], outs := [] })) (br (decide (i > 0)) (br (decide (0 ≤ IntKind.i64.wrap (i - 1) ∧ IntKind.i64.wrap (i - 1) < (↑xs.length : Int))) (br (decide ((xs.getD (IntKind.i64.wrap (i - 1)).toNat (edflt k3)).snd.fst ≥ (xs.getD i.toNat (edflt k3)).snd.fst)) (R (some { av := vB false, obs := [], outs := [] })) (N { tm := [AV.rsl k3 xs, vU, vB false, vJ, vJ, AV.rsl k3 xs, vI (↑xs.length : Int), vI (IntKind.i64.wrap (i + 1)), vJ, vJ, vJ, vJ, vJ, vJ, vJ, vJ, vJ, vJ, vJ, vJ, vJ, vJ, vJ, vJ, vJ, vJ, vJ, vJ, vJ, vJ, vJ, vU, vU, vU], ob := [], nx := 1000000, ps := [] })) False) (N { tm := [AV.rsl k3 xs, vU, vB false, vJ, vJ, AV.rsl k3 xs, vI (↑xs.length : Int), vI (IntKind.i64.wrap (i + 1)), vJ, vJ, vJ, vJ, vJ, vJ, vJ, vJ, vJ, vJ, vJ, vJ, vJ, vJ, vJ, vJ, vJ, vJ, vJ, vJ, vJ, vJ, vJ, vU, vU, vU], ob := [], nx := 1000000, ps := [] }))) False) (R (some { av := vB (decide ((↑xs.length : Int) ≤ 48)), obs := [], outs := [] }))) := by kernel_rfl
noncomputable def E31 : Env := E0.of Tryd.f31
noncomputable def G31 : Gk := gk [(59, g59)]
noncomputable def lp31 (n : Nat) : Code := (loopOf n (codeOf Tryd.f31)).getD .skip
noncomputable def ct31 (L : Lp) (R : Option Res → Prop) (n : Nat) : Kt := contOf E31 G31 L n (codeOf Tryd.f31) (endK E31 Tryd.f31.results.toList R)
noncomputable def rk31 (L : Lp) (R : Option Res → Prop) (n : Nat) (N : St → Prop) : Kt := rk (jof E31 (lp31 n)) N (ct31 L R n)
noncomputable def LOOP31 (L : Lp) (R : Option Res → Prop) (n : Nat) (st : St) : Prop := L (lp31 n) st (ct31 L R n)
theorem hg31 : HG Tryd.prog G31 := (hg_cons h59 hg_nil)
theorem okf31 : Ok Tryd.prog E31 := ok0.of Tryd.f31
theorem e31 (L : Lp) (R : Option Res → Prop) (xs ys : List (Elem k3)) : (bodyP E0 G31 L Tryd.f31 [.rsl k3 xs, .rsl k3 ys] [] R) = (
    br ((↑xs.length : Int) != (↑ys.length : Int)) (R (some { av := vB false, obs := [], outs := [] })) (LOOP31 L R 4 { tm := [AV.rsl k3 xs, AV.rsl k3 ys, vU, vU, vB false, vI 0, vJ, vJ, vJ, vJ, vJ, vJ, vJ, vJ, vJ, vJ, vJ, vJ, vJ, vJ, vJ, vJ, vJ, vJ, vJ, vJ, vJ], ob := [], nx := 1000000, ps := [] })) := by kernel_rfl
def st31 (xs ys : List (Elem k3)) (i : Int) : St :=  ⟨[AV.rsl k3 xs, AV.rsl k3 ys, vU, vU, vB false, .val (.int .i64 i), vJ, vJ, vJ, vJ, vJ, vJ, vJ, vJ, vJ, vJ, vJ, vJ, vJ, vJ, vJ, vJ, vJ, vJ, vJ, vJ, vJ], [], 1000000, []⟩
theorem b31 (L : Lp) (R : Option Res → Prop) (N : St → Prop) (xs ys : List (Elem k3)) (i : Int) : (evP E31 G31 L (lp31 4) (st31 xs ys i) (rk31 L R 4 N)) = (
    br (decide (i < (↑xs.length : Int))) (br (decide (0 ≤ i ∧ i < (↑xs.length : Int))) (br (decide (0 ≤ i ∧ i < (↑ys.length : Int))) (br (!((xs.getD i.toNat (edflt k3)).fst == (ys.getD i.toNat (edflt k3)).fst && (xs.getD i.toNat (edflt k3)).snd.fst == (ys.getD i.toNat (edflt k3)).snd.fst && (xs.getD i.toNat (edflt k3)).snd.snd.fst == (ys.getD i.toNat (edflt k3)).snd.snd.fst)) (R (some { av := vB false, obs := [], outs := [] })) (N { tm := [AV.rsl k3 xs, AV.rsl k3 ys, vU, vU, vB false, vI (IntKind.i64.wrap (i + 1)), vJ, vJ, vJ, vJ, vJ, vJ, vJ, vJ, vJ, vJ, vJ, vJ, vJ, vJ, vJ, vJ, vJ, vJ, vJ, vJ, vJ], ob := [], nx := 1000000, ps := [] })) False) False) (R (some { av := vB true, obs := [], outs := [] }))) := by kernel_rfl
theorem h58 : G1Ok Tryd.prog 58 g58 := by
  intro args obs k h
  unfold g58 at h
  split at h
  · rename_i k xs
    obtain ⟨hlen, h⟩ := br_and h
    simp at hlen
    refine ⟨_, ctr_fn ok0 hg58 Tryd.func58 (by kernel_rfl) (by kernel_rfl) (by kernel_rfl) fun C => ?_, h⟩
    rw [e58]
    exact loopR okf58 hg58 (ι := {i : Int // 0 ≤ i ∧ i ≤ xs.length ∧ ∀ j : Nat, (j : Int) < i → okAt xs j = true}) (fun i => st58 xs i.1) (fun i => (xs.length - i.1).toNat) (fun ⟨i, h0, h1, hall⟩ => by
      show evP E58 G58 _ (lp58 2) (st58 xs i) (rk58 _ _ 2 _)
      rw [b58]
      have hw1 : IntKind.i64.wrap (i + 1) = i + 1 := wrap_id (by omega) (by omega)
      have hw2 : IntKind.i64.wrap (i - 1) = i - 1 := wrap_id (by omega) (by omega)
      rw [hw1, hw2]
      refine br_intro (fun h2 => ?_) (fun h2 => ?_)
      · simp at h2
        have hi : ((i.toNat : Nat) : Int) = i := by omega
        have bad : okAt xs i.toNat = false → ddtOk xs = false := by
          intro hb
          have : (List.range xs.length).all (okAt xs) = false := by
            rw [List.all_eq_false]
            exact ⟨i.toNat, by simp; omega, by simp [hb]⟩
          simp [ddtOk, this]
        have next : okAt xs i.toNat = true → ∃ j : {i : Int // 0 ≤ i ∧ i ≤ xs.length ∧ ∀ j : Nat, (j : Int) < i → okAt xs j = true}, st58 xs (i + 1) = st58 xs j.1 ∧ (xs.length - j.1).toNat < (xs.length - i).toNat := by
          intro hok
          refine ⟨⟨i + 1, by omega, by omega, fun j hj => ?_⟩, rfl, by show (xs.length - (i + 1)).toNat < _; omega⟩
          by_cases e : (j : Int) < i
          · exact hall j e
          · have : j = i.toNat := by omega
            rw [this]; exact hok
        refine br_intro (fun _ => ?_) (fun h3 => by simp at h3; omega)
        refine br_intro (fun h3 => ?_) (fun h3 => ?_)
        · show _ = _
          rw [bad (by unfold okAt at3; simp at h3; simp [h3])]
        · simp at h3
          refine br_intro (fun h4 => ?_) (fun h4 => ?_)
          · simp at h4
            have hj : (i - 1).toNat = i.toNat - 1 := by omega
            have hne : ¬ i.toNat = 0 := by omega
            refine br_intro (fun _ => ?_) (fun h5 => by simp at h5; omega)
            refine br_intro (fun h5 => ?_) (fun h5 => ?_)
            · show _ = _
              rw [bad (by unfold okAt at3; rw [hj] at h5; simp at h5; simp [hne]; intro _; omega)]
            · exact next (by unfold okAt at3; rw [hj] at h5; simp at h5; simp [hne, h3]; omega)
          · simp at h4
            have h0' : i.toNat = 0 := by omega
            exact next (by unfold okAt at3; simp [h0'] at h3 ⊢; simp [h3])
      · simp at h2
        show _ = _
        have : (List.range xs.length).all (okAt xs) = true := by
          rw [List.all_eq_true]
          intro j hj
          exact hall j (by simp at hj; omega)
        have e : decide ((xs.length : Int) ≤ 48) = decide (xs.length ≤ 48) := by
          apply decide_eq_decide.2; omega
        rw [e]
        simp [ddtOk, this]) ⟨0, by omega, by omega, fun j hj => by omega⟩
  · exact h.elim
theorem h56 : G1Ok Tryd.prog 56 g58 := by
  intro args obs k h
  unfold g58 at h
  split at h
  · rename_i k xs
    obtain ⟨hlen, h⟩ := br_and h
    simp at hlen
    refine ⟨_, ctr_fn ok0 hg56 Tryd.func56 (by kernel_rfl) (by kernel_rfl) (by kernel_rfl) fun C => ?_, h⟩
    rw [e56]
    refine br_intro (fun hb => ?_) (fun hb => ?_)
    · simp at hb
      have : ddtOk xs = false := by simp [ddtOk]; omega
      rw [this]
    have h48 : xs.length ≤ 48 := by simp at hb; omega
    have hb' : decide ((xs.length : Int) > 48) = false := hb
    exact loopR okf56 hg56 (ι := {i : Int // 0 ≤ i ∧ i ≤ xs.length ∧ ∀ j : Nat, (j : Int) < i → okAt xs j = true}) (fun i => st56 xs i.1) (fun i => (xs.length - i.1).toNat) (fun ⟨i, h0, h1, hall⟩ => by
      show evP E56 G56 _ (lp56 4) (st56 xs i) (rk56 _ _ 4 _)
      rw [b56]
      have hw1 : IntKind.i64.wrap (i + 1) = i + 1 := wrap_id (by omega) (by omega)
      have hw2 : IntKind.i64.wrap (i - 1) = i - 1 := wrap_id (by omega) (by omega)
      rw [hw1, hw2]
      refine br_intro (fun h2 => ?_) (fun h2 => ?_)
      · simp at h2
        have hi : ((i.toNat : Nat) : Int) = i := by omega
        have bad : okAt xs i.toNat = false → ddtOk xs = false := by
          intro hb
          have : (List.range xs.length).all (okAt xs) = false := by
            rw [List.all_eq_false]
            exact ⟨i.toNat, by simp; omega, by simp [hb]⟩
          simp [ddtOk, this]
        have next : okAt xs i.toNat = true → ∃ j : {i : Int // 0 ≤ i ∧ i ≤ xs.length ∧ ∀ j : Nat, (j : Int) < i → okAt xs j = true}, st56 xs (i + 1) = st56 xs j.1 ∧ (xs.length - j.1).toNat < (xs.length - i).toNat := by
          intro hok
          refine ⟨⟨i + 1, by omega, by omega, fun j hj => ?_⟩, rfl, by show (xs.length - (i + 1)).toNat < _; omega⟩
          by_cases e : (j : Int) < i
          · exact hall j e
          · have : j = i.toNat := by omega
            rw [this]; exact hok
        refine br_intro (fun _ => ?_) (fun h3 => by simp at h3; omega)
        refine br_intro (fun h3 => ?_) (fun h3 => ?_)
        · show _ = _
          rw [bad (by unfold okAt at3; simp at h3; simp [h3])]
        · simp at h3
          refine br_intro (fun h4 => ?_) (fun h4 => ?_)
          · simp at h4
            have hj : (i - 1).toNat = i.toNat - 1 := by omega
            have hne : ¬ i.toNat = 0 := by omega
            refine br_intro (fun _ => ?_) (fun h5 => by simp at h5; omega)
            refine br_intro (fun _ => ?_) (fun h5 => by simp at h5; omega)
            refine br_intro (fun h5 => ?_) (fun h5 => ?_)
            · show _ = _
              rw [bad (by unfold okAt at3; rw [hj] at h5; simp at h5; simp [hne]; intro _; omega)]
            · exact next (by unfold okAt at3; rw [hj] at h5; simp at h5; simp [hne, h3]; omega)
          · simp at h4
            have h0' : i.toNat = 0 := by omega
            exact next (by unfold okAt at3; simp [h0'] at h3 ⊢; simp [h3])
      · simp at h2
        show _ = _
        have : (List.range xs.length).all (okAt xs) = true := by
          rw [List.all_eq_true]
          intro j hj
          exact hall j (by simp at hj; omega)
        simp [ddtOk, this, h48]) ⟨0, by omega, by omega, fun j hj => by omega⟩
  · exact h.elim
theorem h31 : G1Ok Tryd.prog 31 g31 := by
  intro args obs k h
  unfold g31 at h
  split at h
  · rename_i k xs ys
    obtain ⟨hlen, h⟩ := br_and h
    simp at hlen
    refine ⟨_, ctr_fn ok0 hg31 Tryd.func31 (by kernel_rfl) (by kernel_rfl) (by kernel_rfl) fun C => ?_, h⟩
    rw [e31]
    refine br_intro (fun hb => ?_) (fun hb => ?_)
    · simp at hb
      have : eqF xs ys = false := by simp [eqF]; omega
      rw [this]
    have hl : xs.length = ys.length := by simp at hb; omega
    exact loopR okf31 hg31 (ι := {i : Int // 0 ≤ i ∧ i ≤ xs.length ∧ ∀ j : Nat, (j : Int) < i → eq3 (at3 xs j) (at3 ys j) = true}) (fun i => st31 xs ys i.1) (fun i => (xs.length - i.1).toNat) (fun ⟨i, h0, h1, hall⟩ => by
      show evP E31 G31 _ (lp31 4) (st31 xs ys i) (rk31 _ _ 4 _)
      rw [b31]
      have hw1 : IntKind.i64.wrap (i + 1) = i + 1 := wrap_id (by omega) (by omega)
      rw [hw1]
      refine br_intro (fun h2 => ?_) (fun h2 => ?_)
      · simp at h2
        refine br_intro (fun _ => ?_) (fun h3 => by simp at h3; omega)
        refine br_intro (fun _ => ?_) (fun h3 => by simp at h3; omega)
        refine br_intro (fun h3 => ?_) (fun h3 => ?_)
        · show _ = _
          have hb : eq3 (at3 xs i.toNat) (at3 ys i.toNat) = false := by
            rw [Bool.not_eq_true'] at h3
            exact h3
          have : eqF xs ys = false := by
            have : ((List.range xs.length).all fun i => eq3 (at3 xs i) (at3 ys i)) = false := by
              rw [List.all_eq_false]
              exact ⟨i.toNat, by simp; omega, by simp [hb]⟩
            simp [eqF, this]
          rw [this]
        · have hok : eq3 (at3 xs i.toNat) (at3 ys i.toNat) = true := by
            rw [Bool.not_eq_false'] at h3
            exact h3
          refine ⟨⟨i + 1, by omega, by omega, fun j hj => ?_⟩, rfl, by show (xs.length - (i + 1)).toNat < (xs.length - i).toNat; omega⟩
          by_cases e : (j : Int) < i
          · exact hall j e
          · have : j = i.toNat := by omega
            rw [this]; exact hok
      · simp at h2
        show _ = _
        have : ((List.range xs.length).all fun i => eq3 (at3 xs i) (at3 ys i)) = true := by
          rw [List.all_eq_true]
          intro j hj
          exact hall j (by simp at hj; omega)
        unfold eqF
        rw [this]
        simp [hl]) ⟨0, by omega, by omega, fun j hj => by omega⟩
  · exact h.elim
theorem take_set_next {α : Type} (xs ys : List α) (n : Nat) (e : α) (hx : xs[n]? = some e) (hy : ys.take n = xs.take n) (hl : n < ys.length) : (ys.set n e).take (n + 1) = xs.take (n + 1) := by
  rw [List.take_add_one, List.take_add_one, List.take_set_of_le (Nat.le_refl n), hy, List.getElem?_set_self hl, hx]
theorem h29 : G1Ok Tryd.prog 29 g29 := by
  intro args obs k h
  unfold g29 at h
  split at h
  · rename_i k xs
    obtain ⟨hlen, h⟩ := br_and h
    simp at hlen
    refine ⟨_, ctr_fn ok0 hg29 Tryd.func29 (by kernel_rfl) (by kernel_rfl) (by kernel_rfl) fun C => ?_, h⟩
    rw [e29]
    refine br_intro (fun hb => ?_) (fun hb => by simp at hb; omega)
    exact loopR okf29 hg29 (ι := {p : Int × List (Elem k3) // 0 ≤ p.1 ∧ p.1 ≤ xs.length ∧ p.2.length = xs.length ∧ p.2.take p.1.toNat = xs.take p.1.toNat}) (fun p => st29 xs p.1.1 p.1.2) (fun p => (xs.length - p.1.1).toNat) (fun ⟨(i, ys), h0, h1, hl, ht⟩ => by
      show evP E29 G29 _ (lp29 3) (st29 xs i ys) (rk29 _ _ 3 _)
      rw [b29]
      simp only at h0 h1 hl ht
      have hw1 : IntKind.i64.wrap (i + 1) = i + 1 := wrap_id (by omega) (by omega)
      rw [hw1]
      refine br_intro (fun h2 => ?_) (fun h2 => ?_)
      · simp at h2
        refine br_intro (fun _ => ?_) (fun h3 => by simp at h3; omega)
        refine br_intro (fun _ => ?_) (fun h3 => by simp at h3; omega)
        refine ⟨⟨(i + 1, ys.set i.toNat (at3 xs i.toNat)), by show 0 ≤ i + 1; omega, by show i + 1 ≤ _; omega, by simp [hl], ?_⟩, rfl, by show (xs.length - (i + 1)).toNat < (xs.length - i).toNat; omega⟩
        have e : (i + 1).toNat = i.toNat + 1 := by omega
        show (ys.set i.toNat _).take (i + 1).toNat = xs.take (i + 1).toNat
        rw [e]
        have hi : i.toNat < xs.length := by omega
        exact take_set_next xs ys i.toNat _ (by unfold at3; rw [List.getD_eq_getElem?_getD, List.getElem?_eq_getElem hi]; rfl) ht (by omega)
      · simp at h2
        show _ = _
        have e : i.toNat = xs.length := by omega
        rw [e, List.take_of_length_le (by omega), List.take_of_length_le (by omega)] at ht
        rw [ht]) ⟨(0, List.replicate xs.length (0, 0, 0, ())), by simp, by simp, by simp, by simp⟩
  · exact h.elim
end Go.Proofs.YtljilcingbohkaaDoor.Ev

