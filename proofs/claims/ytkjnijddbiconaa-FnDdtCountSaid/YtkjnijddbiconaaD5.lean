/- The law of DdtText: lists of dedup entries. -/
import Derived.Test.YtkjnijddbiconaaDP
namespace Go.Proofs.Ytkjnijddbiconaa.Ev
open Go
set_option linter.unusedVariables false
set_option linter.unusedSimpArgs false
set_option maxRecDepth 100000
def rows3 (a : Elem k3) : List AV := [.val (.int .i64 a.1), .val (.int .i64 a.2.1), .val (.int .i64 a.2.2.1)]
def within (a b c : Int) : Bool := decide (b ≤ a) && decide (a ≤ c)
def entryOk (a : Elem k3) : Bool := within a.1 0 65520 && within a.2.1 1 119 && within a.2.2.1 1 1000
def g6 : G1
  | [.rsl [.int .i64, .int .i64, .int .i64] xs, .val (.int .i64 l)], [], k =>
    br (decide (IntKind.i64.wrap (l - xs.length) < 0)) (k ⟨.val (.int .i64 (-1)), [], []⟩) (k ⟨.val (.int .i64 (IntKind.i64.wrap (l - xs.length))), [], []⟩)
  | _, _, _ => False
def g22 : G1
  | [.agg [.val (.int .i64 a), .val (.int .i64 b), .val (.int .i64 c)]], [], k => k ⟨.agg [.val (.int .i64 a), .val (.int .i64 b), .val (.int .i64 c)], [], []⟩
  | _, _, _ => False
def g32 : G1
  | [.agg [.val (.int .i64 a), .val (.int .i64 b), .val (.int .i64 c)]], [], k => k ⟨.val (.bool (entryOk (a, b, c, ()))), [], []⟩
  | _, _, _ => False
def g24 : G1
  | [.agg [.val (.int .i64 a), .val (.int .i64 b), .val (.int .i64 c)], .agg [.val (.int .i64 a'), .val (.int .i64 b'), .val (.int .i64 c')]], [], k => k ⟨.val (.bool (a == a' && b == b' && c == c')), [], []⟩
  | _, _, _ => False
def at3 (xs : List (Elem k3)) (i : Nat) : Elem k3 := xs.getD i (edflt k3)
def okAt (xs : List (Elem k3)) (i : Nat) : Bool := entryOk (at3 xs i) && (i == 0 || decide ((at3 xs (i - 1)).2.1 < (at3 xs i).2.1))
def ddtOk (xs : List (Elem k3)) : Bool := decide (xs.length ≤ 48) && (List.range xs.length).all (okAt xs)
def eq3 (a b : Elem k3) : Bool := a.1 == b.1 && a.2.1 == b.2.1 && a.2.2.1 == b.2.2.1
def eqF (xs ys : List (Elem k3)) : Bool := decide (xs.length = ys.length) && (List.range xs.length).all fun i => eq3 (at3 xs i) (at3 ys i)
def g8 : G1
  | [.rsl [.int .i64, .int .i64, .int .i64] xs], [], k => br (decide (xs.length ≤ 1048576)) (k ⟨.ows 0, [.row [.int .i64, .int .i64, .int .i64] xs], []⟩) False
  | _, _, _ => False
def g17 : G1
  | [.rsl [.int .i64, .int .i64, .int .i64] xs], [], k => br (decide (xs.length ≤ 1048576)) (k ⟨.val (.bool (ddtOk xs)), [], []⟩) False
  | _, _, _ => False
def g10 : G1
  | [.rsl [.int .i64, .int .i64, .int .i64] xs, .rsl [.int .i64, .int .i64, .int .i64] ys], [], k => br (decide (xs.length ≤ 1048576)) (k ⟨.val (.bool (eqF xs ys)), [], []⟩) False
  | _, _, _ => False
theorem e6 (L : Lp) (R : Option Res → Prop) (xs : List (Elem k3)) (l : Int) : (bodyP E0 (gk []) L Try.f6 [.rsl k3 xs, .val (.int .i64 l)] [] R) = (
    br (decide (IntKind.i64.wrap (l - (↑xs.length : Int)) < 0)) (R (some { av := vI (-1), obs := [], outs := [] })) (R (some { av := vI (IntKind.i64.wrap (l - (↑xs.length : Int))), obs := [], outs := [] }))) := by kernel_rfl
theorem e22 (L : Lp) (R : Option Res → Prop) (a b c : Int) : (bodyP E0 (gk []) L Try.f22 [.agg [.val (.int .i64 a), .val (.int .i64 b), .val (.int .i64 c)]] [] R) = (
    R (some { av := AV.agg [vI a, vI b, vI c], obs := [], outs := [] })) := by kernel_rfl
theorem e32 (L : Lp) (R : Option Res → Prop) (a b c : Int) : (bodyP E0 (gk [(42, g42)]) L Try.f32 [.agg [.val (.int .i64 a), .val (.int .i64 b), .val (.int .i64 c)]] [] R) = (
    br (decide (0 ≤ a) && decide (a ≤ 65520)) (br (decide (1 ≤ b) && decide (b ≤ 119)) (R (some { av := vB (decide (1 ≤ c) && decide (c ≤ 1000)), obs := [], outs := [] })) (R (some { av := vB false, obs := [], outs := [] }))) (R (some { av := vB false, obs := [], outs := [] }))) := by kernel_rfl
theorem e25 (L : Lp) (R : Option Res → Prop) (a b c : Int) : (bodyP E0 (gk []) L Try.f25 [.agg [.val (.int .i64 a), .val (.int .i64 b), .val (.int .i64 c)]] [] R) = (
    br (decide (a ≥ 0)) (br (decide (a < 65521)) (br (decide (b ≥ 1)) (br (decide (b < 120)) (br (decide (c ≥ 1)) (R (some { av := vB (decide (c ≤ 1000)), obs := [], outs := [] })) (R (some { av := vB false, obs := [], outs := [] }))) (R (some { av := vB false, obs := [], outs := [] }))) (R (some { av := vB false, obs := [], outs := [] }))) (R (some { av := vB false, obs := [], outs := [] }))) (R (some { av := vB false, obs := [], outs := [] }))) := by kernel_rfl
theorem e24 (L : Lp) (R : Option Res → Prop) (a b c a' b' c' : Int) : (bodyP E0 (gk []) L Try.f24 [.agg [.val (.int .i64 a), .val (.int .i64 b), .val (.int .i64 c)], .agg [.val (.int .i64 a'), .val (.int .i64 b'), .val (.int .i64 c')]] [] R) = (
    br (a != a') (R (some { av := vB false, obs := [], outs := [] })) (br (b != b') (R (some { av := vB false, obs := [], outs := [] })) (br (c != c') (R (some { av := vB false, obs := [], outs := [] })) (R (some { av := vB true, obs := [], outs := [] }))))) := by kernel_rfl
theorem h22 : G1Ok Try.prog 22 g22 := by
  intro args obs k h
  unfold g22 at h
  split at h
  · refine ⟨_, ctr_fn ok0 hg_nil Try.func22 (by kernel_rfl) (by kernel_rfl) (by kernel_rfl) fun C => ?_, h⟩
    rw [e22]
  · exact h.elim
theorem h32 : G1Ok Try.prog 32 g32 := by
  intro args obs k h
  unfold g32 at h
  split at h
  · refine ⟨_, ctr_fn ok0 (hg_cons h42 hg_nil) Try.func32 (by kernel_rfl) (by kernel_rfl) (by kernel_rfl) fun C => ?_, h⟩
    rw [e32]
    repeat' (first | refine br_intro (fun h => ?_) (fun h => ?_))
    all_goals simp [entryOk, within] at *
    all_goals grind
  · exact h.elim
theorem h25 : G1Ok Try.prog 25 g32 := by
  intro args obs k h
  unfold g32 at h
  split at h
  · refine ⟨_, ctr_fn ok0 hg_nil Try.func25 (by kernel_rfl) (by kernel_rfl) (by kernel_rfl) fun C => ?_, h⟩
    rw [e25]
    repeat' (first | refine br_intro (fun h => ?_) (fun h => ?_))
    all_goals simp [entryOk, within] at *
    all_goals grind
  · exact h.elim
theorem h24 : G1Ok Try.prog 24 g24 := by
  intro args obs k h
  unfold g24 at h
  split at h
  · refine ⟨_, ctr_fn ok0 hg_nil Try.func24 (by kernel_rfl) (by kernel_rfl) (by kernel_rfl) fun C => ?_, h⟩
    rw [e24]
    repeat' (first | refine br_intro (fun h => ?_) (fun h => ?_))
    all_goals simp at *
    all_goals grind
  · exact h.elim
theorem h6 : G1Ok Try.prog 6 g6 := by
  intro args obs k h
  unfold g6 at h
  split at h
  · rename_i k xs l
    have key : ∀ C, ∀ R, (decide (IntKind.i64.wrap (l - xs.length) < 0) = true → R (some ⟨.val (.int .i64 (-1)), [], []⟩)) → (decide (IntKind.i64.wrap (l - xs.length) < 0) = false → R (some ⟨.val (.int .i64 (IntKind.i64.wrap (l - xs.length))), [], []⟩)) → bodyP E0 (gk []) (LoopOk Try.prog C) Try.f6 [.rsl k3 xs, .val (.int .i64 l)] [] R := by
      intro C R h1 h2
      rw [e6]
      exact br_intro h1 h2
    cases hc : decide (IntKind.i64.wrap (l - xs.length) < 0) with
    | true =>
      rw [hc] at h
      exact ⟨_, ctr_fn ok0 hg_nil Try.func6 (by kernel_rfl) (by kernel_rfl) (by kernel_rfl) fun C => key C _ (fun _ => rfl) (fun h => by rw [hc] at h; cases h), h⟩
    | false =>
      rw [hc] at h
      exact ⟨_, ctr_fn ok0 hg_nil Try.func6 (by kernel_rfl) (by kernel_rfl) (by kernel_rfl) fun C => key C _ (fun h => by rw [hc] at h; cases h) (fun _ => rfl), h⟩
  · exact h.elim
noncomputable def E8 : Env := E0.of Try.f8
noncomputable def G8 : Gk := gk [(22, g22)]
noncomputable def lp8 (n : Nat) : Code := (loopOf n (codeOf Try.f8)).getD .skip
noncomputable def ct8 (L : Lp) (R : Option Res → Prop) (n : Nat) : Kt := contOf E8 G8 L n (codeOf Try.f8) (endK E8 Try.f8.results.toList R)
noncomputable def rk8 (L : Lp) (R : Option Res → Prop) (n : Nat) (N : St → Prop) : Kt := rk (jof E8 (lp8 n)) N (ct8 L R n)
noncomputable def rkn8 (L : Lp) (R : Option Res → Prop) (n : Nat) (N : St → Prop) (m : Nat) (N2 : St → Prop) : Kt := rk (jof E8 (lp8 m)) N2 (contOf E8 G8 L m (lp8 n) (rk8 L R n N))
noncomputable def LOOPN8 (L : Lp) (R : Option Res → Prop) (n : Nat) (N : St → Prop) (m : Nat) (st : St) : Prop := L (lp8 m) st (contOf E8 G8 L m (lp8 n) (rk8 L R n N))
noncomputable def LOOP8 (L : Lp) (R : Option Res → Prop) (n : Nat) (st : St) : Prop := L (lp8 n) st (ct8 L R n)
theorem hg8 : HG Try.prog G8 := (hg_cons h22 hg_nil)
theorem okf8 : Ok Try.prog E8 := ok0.of Try.f8
theorem e8 (L : Lp) (R : Option Res → Prop) (xs : List (Elem k3)) : (bodyP E0 G8 L Try.f8 [.rsl k3 xs] [] R) = (
    br (decide (0 ≤ (↑xs.length : Int) ∧ (↑xs.length : Int) ≤ (↑xs.length : Int) ∧ 24 * (↑xs.length : Int) ≤ 281474976710656)) (LOOP8 L R 3 { tm := [AV.rsl k3 xs, vU, AV.ows 0, AV.ows 1, vI 0, vJ, vJ, vJ, vJ, vJ, vJ, vJ, vJ, vJ, vJ, vJ, vJ, vJ, vJ, vJ, vJ, vJ, vU], ob := [(0, AO.row k3 []), (1, AO.row k3 (List.replicate (↑xs.length : Int).toNat (edflt k3)))], nx := 1000000, ps := [] }) False) := by kernel_rfl
def st8 (xs : List (Elem k3)) (i : Int) (ys : List (Elem k3)) : St :=  ⟨[AV.rsl k3 xs, vU, AV.ows 0, AV.ows 1, .val (.int .i64 i), vJ, vJ, vJ, vJ, vJ, vJ, vJ, vJ, vJ, vJ, vJ, vJ, vJ, vJ, vJ, vJ, vJ, vU], [(0, AO.row k3 []), (1, .row k3 ys)], 1000000, []⟩
theorem b8 (L : Lp) (R : Option Res → Prop) (N : St → Prop) (xs : List (Elem k3)) (i : Int) (ys : List (Elem k3)) : (evP E8 G8 L (lp8 3) (st8 xs i ys) (rk8 L R 3 N)) = (
    br (decide (i < (↑xs.length : Int))) (br (decide (0 ≤ i ∧ i < (↑xs.length : Int))) (br (decide (0 ≤ i ∧ i < (↑ys.length : Int))) (N { tm := [AV.rsl k3 xs, vU, AV.ows 0, AV.ows 1, vI (IntKind.i64.wrap (i + 1)), vJ, vJ, vJ, vJ, vJ, vJ, vJ, vJ, vJ, vJ, vJ, vJ, vJ, vJ, vJ, vJ, vJ, vU], ob := [(0, AO.row k3 []), (1, AO.row k3 (ys.set i.toNat (xs.getD i.toNat (edflt k3))))], nx := 1000000, ps := [] }) False) False) (R (some { av := AV.ows 0, obs := [AO.row k3 ys], outs := [] }))) := by kernel_rfl
noncomputable def E18 : Env := E0.of Try.f18
noncomputable def G18 : Gk := gk [(25, g32)]
noncomputable def lp18 (n : Nat) : Code := (loopOf n (codeOf Try.f18)).getD .skip
noncomputable def ct18 (L : Lp) (R : Option Res → Prop) (n : Nat) : Kt := contOf E18 G18 L n (codeOf Try.f18) (endK E18 Try.f18.results.toList R)
noncomputable def rk18 (L : Lp) (R : Option Res → Prop) (n : Nat) (N : St → Prop) : Kt := rk (jof E18 (lp18 n)) N (ct18 L R n)
noncomputable def rkn18 (L : Lp) (R : Option Res → Prop) (n : Nat) (N : St → Prop) (m : Nat) (N2 : St → Prop) : Kt := rk (jof E18 (lp18 m)) N2 (contOf E18 G18 L m (lp18 n) (rk18 L R n N))
noncomputable def LOOPN18 (L : Lp) (R : Option Res → Prop) (n : Nat) (N : St → Prop) (m : Nat) (st : St) : Prop := L (lp18 m) st (contOf E18 G18 L m (lp18 n) (rk18 L R n N))
noncomputable def LOOP18 (L : Lp) (R : Option Res → Prop) (n : Nat) (st : St) : Prop := L (lp18 n) st (ct18 L R n)
theorem hg18 : HG Try.prog G18 := (hg_cons h25 hg_nil)
theorem okf18 : Ok Try.prog E18 := ok0.of Try.f18
theorem e18 (L : Lp) (R : Option Res → Prop) (xs : List (Elem k3)) : (bodyP E0 G18 L Try.f18 [.rsl k3 xs] [] R) = (
    br (decide ((↑xs.length : Int) > 48)) (R (some { av := vB false, obs := [], outs := [] })) (LOOP18 L R 4 { tm := [AV.rsl k3 xs, vU, vB false, vI 0, vJ, vJ, vJ, vJ, vJ, vJ, vJ, vJ, vJ, vJ, vJ, vJ, vJ, vJ, vJ, vJ, vJ, vJ, vJ, vJ, vJ, vJ, vJ, vJ, vJ, vJ, vJ, vJ, vJ, vJ, vJ, vJ, vJ], ob := [], nx := 1000000, ps := [] })) := by kernel_rfl
def st18 (xs : List (Elem k3)) (i : Int) : St :=  ⟨[AV.rsl k3 xs, vU, vB false, .val (.int .i64 i), vJ, vJ, vJ, vJ, vJ, vJ, vJ, vJ, vJ, vJ, vJ, vJ, vJ, vJ, vJ, vJ, vJ, vJ, vJ, vJ, vJ, vJ, vJ, vJ, vJ, vJ, vJ, vJ, vJ, vJ, vJ, vJ, vJ], [], 1000000, []⟩
theorem b18 (L : Lp) (R : Option Res → Prop) (N : St → Prop) (xs : List (Elem k3)) (i : Int) : (evP E18 G18 L (lp18 4) (st18 xs i) (rk18 L R 4 N)) = (
    br (decide (i < (↑xs.length : Int))) (br (decide (0 ≤ i ∧ i < (↑xs.length : Int))) (br (!entryOk (xs.getD i.toNat (edflt k3))) (R (some { av := vB false, obs := [], outs := [] })) (br (decide (i > 0)) (br (decide (0 ≤ i ∧ i < (↑xs.length : Int))) (br (decide (0 ≤ IntKind.i64.wrap (i - 1) ∧ IntKind.i64.wrap (i - 1) < (↑xs.length : Int))) (br (decide ((xs.getD i.toNat (edflt k3)).snd.fst ≤ (xs.getD (IntKind.i64.wrap (i - 1)).toNat (edflt k3)).snd.fst)) (R (some { av := vB false, obs := [], outs := [] })) (N { tm := [AV.rsl k3 xs, vU, vB false, vI (IntKind.i64.wrap (i + 1)), vJ, vJ, vJ, vJ, vJ, vJ, vJ, vJ, vJ, vJ, vJ, vJ, vJ, vJ, vJ, vJ, vJ, vJ, vJ, vJ, vJ, vJ, vJ, vJ, vJ, vJ, vJ, vJ, vJ, vJ, vJ, vJ, vJ], ob := [], nx := 1000000, ps := [] })) False) False) (N { tm := [AV.rsl k3 xs, vU, vB false, vI (IntKind.i64.wrap (i + 1)), vJ, vJ, vJ, vJ, vJ, vJ, vJ, vJ, vJ, vJ, vJ, vJ, vJ, vJ, vJ, vJ, vJ, vJ, vJ, vJ, vJ, vJ, vJ, vJ, vJ, vJ, vJ, vJ, vJ, vJ, vJ, vJ, vJ], ob := [], nx := 1000000, ps := [] }))) False) (R (some { av := vB true, obs := [], outs := [] }))) := by kernel_rfl
noncomputable def E17 : Env := E0.of Try.f17
noncomputable def G17 : Gk := gk [(32, g32)]
noncomputable def lp17 (n : Nat) : Code := (loopOf n (codeOf Try.f17)).getD .skip
noncomputable def ct17 (L : Lp) (R : Option Res → Prop) (n : Nat) : Kt := contOf E17 G17 L n (codeOf Try.f17) (endK E17 Try.f17.results.toList R)
noncomputable def rk17 (L : Lp) (R : Option Res → Prop) (n : Nat) (N : St → Prop) : Kt := rk (jof E17 (lp17 n)) N (ct17 L R n)
noncomputable def rkn17 (L : Lp) (R : Option Res → Prop) (n : Nat) (N : St → Prop) (m : Nat) (N2 : St → Prop) : Kt := rk (jof E17 (lp17 m)) N2 (contOf E17 G17 L m (lp17 n) (rk17 L R n N))
noncomputable def LOOPN17 (L : Lp) (R : Option Res → Prop) (n : Nat) (N : St → Prop) (m : Nat) (st : St) : Prop := L (lp17 m) st (contOf E17 G17 L m (lp17 n) (rk17 L R n N))
noncomputable def LOOP17 (L : Lp) (R : Option Res → Prop) (n : Nat) (st : St) : Prop := L (lp17 n) st (ct17 L R n)
theorem hg17 : HG Try.prog G17 := (hg_cons h32 hg_nil)
theorem okf17 : Ok Try.prog E17 := ok0.of Try.f17
theorem e17 (L : Lp) (R : Option Res → Prop) (xs : List (Elem k3)) : (bodyP E0 G17 L Try.f17 [.rsl k3 xs] [] R) = (
    LOOP17 L R 2 { tm := [AV.rsl k3 xs, vU, vB false, vJ, vJ, AV.rsl k3 xs, vI (↑xs.length : Int), vI 0, vJ, vJ, vJ, vJ, vJ, vJ, vJ, vJ, vJ, vJ, vJ, vJ, vJ, vJ, vJ, vJ, vJ, vJ, vJ, vJ, vJ, vJ, vJ, vU, vU, vU], ob := [], nx := 1000000, ps := [] }) := by kernel_rfl
def st17 (xs : List (Elem k3)) (i : Int) : St :=  ⟨[AV.rsl k3 xs, vU, vB false, vJ, vJ, AV.rsl k3 xs, vI (↑xs.length : Int), .val (.int .i64 i), vJ, vJ, vJ, vJ, vJ, vJ, vJ, vJ, vJ, vJ, vJ, vJ, vJ, vJ, vJ, vJ, vJ, vJ, vJ, vJ, vJ, vJ, vJ, vU, vU, vU], [], 1000000, []⟩
theorem b17 (L : Lp) (R : Option Res → Prop) (N : St → Prop) (xs : List (Elem k3)) (i : Int) : (evP E17 G17 L (lp17 2) (st17 xs i) (rk17 L R 2 N)) = (
    br (decide (i < (↑xs.length : Int))) (br (decide (0 ≤ i ∧ i < (↑xs.length : Int))) (br (!entryOk (xs.getD i.toNat (edflt k3))) (R (some { av := vB false, obs := [], outs := [] })) (br (decide (i > 0)) (br (decide (0 ≤ IntKind.i64.wrap (i - 1) ∧ IntKind.i64.wrap (i - 1) < (↑xs.length : Int))) (br (decide ((xs.getD (IntKind.i64.wrap (i - 1)).toNat (edflt k3)).snd.fst ≥ (xs.getD i.toNat (edflt k3)).snd.fst)) (R (some { av := vB false, obs := [], outs := [] })) (N { tm := [AV.rsl k3 xs, vU, vB false, vJ, vJ, AV.rsl k3 xs, vI (↑xs.length : Int), vI (IntKind.i64.wrap (i + 1)), vJ, vJ, vJ, vJ, vJ, vJ, vJ, vJ, vJ, vJ, vJ, vJ, vJ, vJ, vJ, vJ, vJ, vJ, vJ, vJ, vJ, vJ, vJ, vU, vU, vU], ob := [], nx := 1000000, ps := [] })) False) (N { tm := [AV.rsl k3 xs, vU, vB false, vJ, vJ, AV.rsl k3 xs, vI (↑xs.length : Int), vI (IntKind.i64.wrap (i + 1)), vJ, vJ, vJ, vJ, vJ, vJ, vJ, vJ, vJ, vJ, vJ, vJ, vJ, vJ, vJ, vJ, vJ, vJ, vJ, vJ, vJ, vJ, vJ, vU, vU, vU], ob := [], nx := 1000000, ps := [] }))) False) (R (some { av := vB (decide ((↑xs.length : Int) ≤ 48)), obs := [], outs := [] }))) := by kernel_rfl
noncomputable def E10 : Env := E0.of Try.f10
noncomputable def G10 : Gk := gk [(24, g24)]
noncomputable def lp10 (n : Nat) : Code := (loopOf n (codeOf Try.f10)).getD .skip
noncomputable def ct10 (L : Lp) (R : Option Res → Prop) (n : Nat) : Kt := contOf E10 G10 L n (codeOf Try.f10) (endK E10 Try.f10.results.toList R)
noncomputable def rk10 (L : Lp) (R : Option Res → Prop) (n : Nat) (N : St → Prop) : Kt := rk (jof E10 (lp10 n)) N (ct10 L R n)
noncomputable def rkn10 (L : Lp) (R : Option Res → Prop) (n : Nat) (N : St → Prop) (m : Nat) (N2 : St → Prop) : Kt := rk (jof E10 (lp10 m)) N2 (contOf E10 G10 L m (lp10 n) (rk10 L R n N))
noncomputable def LOOPN10 (L : Lp) (R : Option Res → Prop) (n : Nat) (N : St → Prop) (m : Nat) (st : St) : Prop := L (lp10 m) st (contOf E10 G10 L m (lp10 n) (rk10 L R n N))
noncomputable def LOOP10 (L : Lp) (R : Option Res → Prop) (n : Nat) (st : St) : Prop := L (lp10 n) st (ct10 L R n)
theorem hg10 : HG Try.prog G10 := (hg_cons h24 hg_nil)
theorem okf10 : Ok Try.prog E10 := ok0.of Try.f10
theorem e10 (L : Lp) (R : Option Res → Prop) (xs ys : List (Elem k3)) : (bodyP E0 G10 L Try.f10 [.rsl k3 xs, .rsl k3 ys] [] R) = (
    br ((↑xs.length : Int) != (↑ys.length : Int)) (R (some { av := vB false, obs := [], outs := [] })) (LOOP10 L R 4 { tm := [AV.rsl k3 xs, AV.rsl k3 ys, vU, vU, vB false, vI 0, vJ, vJ, vJ, vJ, vJ, vJ, vJ, vJ, vJ, vJ, vJ, vJ, vJ, vJ, vJ, vJ, vJ, vJ, vJ, vJ, vJ], ob := [], nx := 1000000, ps := [] })) := by kernel_rfl
def st10 (xs ys : List (Elem k3)) (i : Int) : St :=  ⟨[AV.rsl k3 xs, AV.rsl k3 ys, vU, vU, vB false, .val (.int .i64 i), vJ, vJ, vJ, vJ, vJ, vJ, vJ, vJ, vJ, vJ, vJ, vJ, vJ, vJ, vJ, vJ, vJ, vJ, vJ, vJ, vJ], [], 1000000, []⟩
theorem b10 (L : Lp) (R : Option Res → Prop) (N : St → Prop) (xs ys : List (Elem k3)) (i : Int) : (evP E10 G10 L (lp10 4) (st10 xs ys i) (rk10 L R 4 N)) = (
    br (decide (i < (↑xs.length : Int))) (br (decide (0 ≤ i ∧ i < (↑xs.length : Int))) (br (decide (0 ≤ i ∧ i < (↑ys.length : Int))) (br (!((xs.getD i.toNat (edflt k3)).fst == (ys.getD i.toNat (edflt k3)).fst && (xs.getD i.toNat (edflt k3)).snd.fst == (ys.getD i.toNat (edflt k3)).snd.fst && (xs.getD i.toNat (edflt k3)).snd.snd.fst == (ys.getD i.toNat (edflt k3)).snd.snd.fst)) (R (some { av := vB false, obs := [], outs := [] })) (N { tm := [AV.rsl k3 xs, AV.rsl k3 ys, vU, vU, vB false, vI (IntKind.i64.wrap (i + 1)), vJ, vJ, vJ, vJ, vJ, vJ, vJ, vJ, vJ, vJ, vJ, vJ, vJ, vJ, vJ, vJ, vJ, vJ, vJ, vJ, vJ], ob := [], nx := 1000000, ps := [] })) False) False) (R (some { av := vB true, obs := [], outs := [] }))) := by kernel_rfl
theorem h17 : G1Ok Try.prog 17 g17 := by
  intro args obs k h
  unfold g17 at h
  split at h
  · rename_i k xs
    obtain ⟨hlen, h⟩ := br_and h
    simp at hlen
    refine ⟨_, ctr_fn ok0 hg17 Try.func17 (by kernel_rfl) (by kernel_rfl) (by kernel_rfl) fun C => ?_, h⟩
    rw [e17]
    exact loopR okf17 hg17 (ι := {i : Int // 0 ≤ i ∧ i ≤ xs.length ∧ ∀ j : Nat, (j : Int) < i → okAt xs j = true}) (fun i => st17 xs i.1) (fun i => (xs.length - i.1).toNat) (fun ⟨i, h0, h1, hall⟩ => by
      show evP E17 G17 _ (lp17 2) (st17 xs i) (rk17 _ _ 2 _)
      rw [b17]
      have hw1 : IntKind.i64.wrap (i + 1) = i + 1 := wrap_id (by omega) (by omega)
      have hw2 : IntKind.i64.wrap (i - 1) = i - 1 := wrap_id (by omega) (by omega)
      rw [hw1, hw2]
      refine br_intro (fun h2 => ?_) (fun h2 => ?_)
      · simp at h2
        have hi : ((i.toNat : Nat) : Int) = i := by omega
        have bad : okAt xs i.toNat = false → ddtOk xs = false := by
          intro hb
          have : (List.range xs.length).all (okAt xs) = false := by
            rw [List.all_eq_false]
            exact ⟨i.toNat, by simp; omega, by simp [hb]⟩
          simp [ddtOk, this]
        have next : okAt xs i.toNat = true → ∃ j : {i : Int // 0 ≤ i ∧ i ≤ xs.length ∧ ∀ j : Nat, (j : Int) < i → okAt xs j = true}, st17 xs (i + 1) = st17 xs j.1 ∧ (xs.length - j.1).toNat < (xs.length - i).toNat := by
          intro hok
          refine ⟨⟨i + 1, by omega, by omega, fun j hj => ?_⟩, rfl, by show (xs.length - (i + 1)).toNat < _; omega⟩
          by_cases e : (j : Int) < i
          · exact hall j e
          · have : j = i.toNat := by omega
            rw [this]; exact hok
        refine br_intro (fun _ => ?_) (fun h3 => by simp at h3; omega)
        refine br_intro (fun h3 => ?_) (fun h3 => ?_)
        · show _ = _
          rw [bad (by unfold okAt at3; simp at h3; simp [h3])]
        · simp at h3
          refine br_intro (fun h4 => ?_) (fun h4 => ?_)
          · simp at h4
            have hj : (i - 1).toNat = i.toNat - 1 := by omega
            have hne : ¬ i.toNat = 0 := by omega
            refine br_intro (fun _ => ?_) (fun h5 => by simp at h5; omega)
            refine br_intro (fun h5 => ?_) (fun h5 => ?_)
            · show _ = _
              rw [bad (by unfold okAt at3; rw [hj] at h5; simp at h5; simp [hne]; intro _; omega)]
            · exact next (by unfold okAt at3; rw [hj] at h5; simp at h5; simp [hne, h3]; omega)
          · simp at h4
            have h0' : i.toNat = 0 := by omega
            exact next (by unfold okAt at3; simp [h0'] at h3 ⊢; simp [h3])
      · simp at h2
        show _ = _
        have : (List.range xs.length).all (okAt xs) = true := by
          rw [List.all_eq_true]
          intro j hj
          exact hall j (by simp at hj; omega)
        have e : decide ((xs.length : Int) ≤ 48) = decide (xs.length ≤ 48) := by
          apply decide_eq_decide.2; omega
        rw [e]
        simp [ddtOk, this]) ⟨0, by omega, by omega, fun j hj => by omega⟩
  · exact h.elim
theorem h18 : G1Ok Try.prog 18 g17 := by
  intro args obs k h
  unfold g17 at h
  split at h
  · rename_i k xs
    obtain ⟨hlen, h⟩ := br_and h
    simp at hlen
    refine ⟨_, ctr_fn ok0 hg18 Try.func18 (by kernel_rfl) (by kernel_rfl) (by kernel_rfl) fun C => ?_, h⟩
    rw [e18]
    refine br_intro (fun hb => ?_) (fun hb => ?_)
    · simp at hb
      have : ddtOk xs = false := by simp [ddtOk]; omega
      rw [this]
    have h222 : xs.length ≤ 48 := by simp at hb; omega
    have hb' : decide ((xs.length : Int) > 48) = false := hb
    exact loopR okf18 hg18 (ι := {i : Int // 0 ≤ i ∧ i ≤ xs.length ∧ ∀ j : Nat, (j : Int) < i → okAt xs j = true}) (fun i => st18 xs i.1) (fun i => (xs.length - i.1).toNat) (fun ⟨i, h0, h1, hall⟩ => by
      show evP E18 G18 _ (lp18 4) (st18 xs i) (rk18 _ _ 4 _)
      rw [b18]
      have hw1 : IntKind.i64.wrap (i + 1) = i + 1 := wrap_id (by omega) (by omega)
      have hw2 : IntKind.i64.wrap (i - 1) = i - 1 := wrap_id (by omega) (by omega)
      rw [hw1, hw2]
      refine br_intro (fun h2 => ?_) (fun h2 => ?_)
      · simp at h2
        have hi : ((i.toNat : Nat) : Int) = i := by omega
        have bad : okAt xs i.toNat = false → ddtOk xs = false := by
          intro hb
          have : (List.range xs.length).all (okAt xs) = false := by
            rw [List.all_eq_false]
            exact ⟨i.toNat, by simp; omega, by simp [hb]⟩
          simp [ddtOk, this]
        have next : okAt xs i.toNat = true → ∃ j : {i : Int // 0 ≤ i ∧ i ≤ xs.length ∧ ∀ j : Nat, (j : Int) < i → okAt xs j = true}, st18 xs (i + 1) = st18 xs j.1 ∧ (xs.length - j.1).toNat < (xs.length - i).toNat := by
          intro hok
          refine ⟨⟨i + 1, by omega, by omega, fun j hj => ?_⟩, rfl, by show (xs.length - (i + 1)).toNat < _; omega⟩
          by_cases e : (j : Int) < i
          · exact hall j e
          · have : j = i.toNat := by omega
            rw [this]; exact hok
        refine br_intro (fun _ => ?_) (fun h3 => by simp at h3; omega)
        refine br_intro (fun h3 => ?_) (fun h3 => ?_)
        · show _ = _
          rw [bad (by unfold okAt at3; simp at h3; simp [h3])]
        · simp at h3
          refine br_intro (fun h4 => ?_) (fun h4 => ?_)
          · simp at h4
            have hj : (i - 1).toNat = i.toNat - 1 := by omega
            have hne : ¬ i.toNat = 0 := by omega
            refine br_intro (fun _ => ?_) (fun h5 => by simp at h5; omega)
            refine br_intro (fun _ => ?_) (fun h5 => by simp at h5; omega)
            refine br_intro (fun h5 => ?_) (fun h5 => ?_)
            · show _ = _
              rw [bad (by unfold okAt at3; rw [hj] at h5; simp at h5; simp [hne]; intro _; omega)]
            · exact next (by unfold okAt at3; rw [hj] at h5; simp at h5; simp [hne, h3]; omega)
          · simp at h4
            have h0' : i.toNat = 0 := by omega
            exact next (by unfold okAt at3; simp [h0'] at h3 ⊢; simp [h3])
      · simp at h2
        show _ = _
        have : (List.range xs.length).all (okAt xs) = true := by
          rw [List.all_eq_true]
          intro j hj
          exact hall j (by simp at hj; omega)
        simp [ddtOk, this, h222]) ⟨0, by omega, by omega, fun j hj => by omega⟩
  · exact h.elim
theorem h10 : G1Ok Try.prog 10 g10 := by
  intro args obs k h
  unfold g10 at h
  split at h
  · rename_i k xs ys
    obtain ⟨hlen, h⟩ := br_and h
    simp at hlen
    refine ⟨_, ctr_fn ok0 hg10 Try.func10 (by kernel_rfl) (by kernel_rfl) (by kernel_rfl) fun C => ?_, h⟩
    rw [e10]
    refine br_intro (fun hb => ?_) (fun hb => ?_)
    · simp at hb
      have : eqF xs ys = false := by simp [eqF]; omega
      rw [this]
    have hl : xs.length = ys.length := by simp at hb; omega
    exact loopR okf10 hg10 (ι := {i : Int // 0 ≤ i ∧ i ≤ xs.length ∧ ∀ j : Nat, (j : Int) < i → eq3 (at3 xs j) (at3 ys j) = true}) (fun i => st10 xs ys i.1) (fun i => (xs.length - i.1).toNat) (fun ⟨i, h0, h1, hall⟩ => by
      show evP E10 G10 _ (lp10 4) (st10 xs ys i) (rk10 _ _ 4 _)
      rw [b10]
      have hw1 : IntKind.i64.wrap (i + 1) = i + 1 := wrap_id (by omega) (by omega)
      rw [hw1]
      refine br_intro (fun h2 => ?_) (fun h2 => ?_)
      · simp at h2
        refine br_intro (fun _ => ?_) (fun h3 => by simp at h3; omega)
        refine br_intro (fun _ => ?_) (fun h3 => by simp at h3; omega)
        refine br_intro (fun h3 => ?_) (fun h3 => ?_)
        · show _ = _
          have hb : eq3 (at3 xs i.toNat) (at3 ys i.toNat) = false := by
            rw [Bool.not_eq_true'] at h3
            exact h3
          have : eqF xs ys = false := by
            have : ((List.range xs.length).all fun i => eq3 (at3 xs i) (at3 ys i)) = false := by
              rw [List.all_eq_false]
              exact ⟨i.toNat, by simp; omega, by simp [hb]⟩
            simp [eqF, this]
          rw [this]
        · have hok : eq3 (at3 xs i.toNat) (at3 ys i.toNat) = true := by
            rw [Bool.not_eq_false'] at h3
            exact h3
          refine ⟨⟨i + 1, by omega, by omega, fun j hj => ?_⟩, rfl, by show (xs.length - (i + 1)).toNat < (xs.length - i).toNat; omega⟩
          by_cases e : (j : Int) < i
          · exact hall j e
          · have : j = i.toNat := by omega
            rw [this]; exact hok
      · simp at h2
        show _ = _
        have : ((List.range xs.length).all fun i => eq3 (at3 xs i) (at3 ys i)) = true := by
          rw [List.all_eq_true]
          intro j hj
          exact hall j (by simp at hj; omega)
        unfold eqF
        rw [this]
        simp [hl]) ⟨0, by omega, by omega, fun j hj => by omega⟩
  · exact h.elim
theorem take_set_next {α : Type} (xs ys : List α) (n : Nat) (e : α) (hx : xs[n]? = some e) (hy : ys.take n = xs.take n) (hl : n < ys.length) : (ys.set n e).take (n + 1) = xs.take (n + 1) := by
  rw [List.take_add_one, List.take_add_one, List.take_set_of_le (Nat.le_refl n), hy, List.getElem?_set_self hl, hx]
theorem h8 : G1Ok Try.prog 8 g8 := by
  intro args obs k h
  unfold g8 at h
  split at h
  · rename_i k xs
    obtain ⟨hlen, h⟩ := br_and h
    simp at hlen
    refine ⟨_, ctr_fn ok0 hg8 Try.func8 (by kernel_rfl) (by kernel_rfl) (by kernel_rfl) fun C => ?_, h⟩
    rw [e8]
    refine br_intro (fun hb => ?_) (fun hb => by simp at hb; omega)
    exact loopR okf8 hg8 (ι := {p : Int × List (Elem k3) // 0 ≤ p.1 ∧ p.1 ≤ xs.length ∧ p.2.length = xs.length ∧ p.2.take p.1.toNat = xs.take p.1.toNat}) (fun p => st8 xs p.1.1 p.1.2) (fun p => (xs.length - p.1.1).toNat) (fun ⟨(i, ys), h0, h1, hl, ht⟩ => by
      show evP E8 G8 _ (lp8 3) (st8 xs i ys) (rk8 _ _ 3 _)
      rw [b8]
      simp only at h0 h1 hl ht
      have hw1 : IntKind.i64.wrap (i + 1) = i + 1 := wrap_id (by omega) (by omega)
      rw [hw1]
      refine br_intro (fun h2 => ?_) (fun h2 => ?_)
      · simp at h2
        refine br_intro (fun _ => ?_) (fun h3 => by simp at h3; omega)
        refine br_intro (fun _ => ?_) (fun h3 => by simp at h3; omega)
        refine ⟨⟨(i + 1, ys.set i.toNat (at3 xs i.toNat)), by show 0 ≤ i + 1; omega, by show i + 1 ≤ _; omega, by simp [hl], ?_⟩, rfl, by show (xs.length - (i + 1)).toNat < (xs.length - i).toNat; omega⟩
        have e : (i + 1).toNat = i.toNat + 1 := by omega
        show (ys.set i.toNat _).take (i + 1).toNat = xs.take (i + 1).toNat
        rw [e]
        have hi : i.toNat < xs.length := by omega
        exact take_set_next xs ys i.toNat _ (by unfold at3; rw [List.getD_eq_getElem?_getD, List.getElem?_eq_getElem hi]; rfl) ht (by omega)
      · simp at h2
        show _ = _
        have e : i.toNat = xs.length := by omega
        rw [e, List.take_of_length_le (by omega), List.take_of_length_le (by omega)] at ht
        rw [ht]) ⟨(0, List.replicate xs.length (0, 0, 0, ())), by simp, by simp, by simp, by simp⟩
  · exact h.elim
end Go.Proofs.Ytkjnijddbiconaa.Ev

