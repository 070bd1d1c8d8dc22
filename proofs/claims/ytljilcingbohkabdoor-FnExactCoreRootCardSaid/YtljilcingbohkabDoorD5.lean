/- The law of DdtText: lists of dedup entries. -/
import Derived.Test.YtljilcingbohkabDoorDP
namespace Go.Proofs.YtljilcingbohkabDoor.Ev
open Go
set_option linter.unusedVariables false
set_option linter.unusedSimpArgs false
set_option maxRecDepth 100000
def rows3 (a : Elem k3) : List AV := [.val (.int .i64 a.1), .val (.int .i64 a.2.1), .val (.int .i64 a.2.2.1)]
def within (a b c : Int) : Bool := decide (b ≤ a) && decide (a ≤ c)
def entryOk (a : Elem k3) : Bool := within a.1 0 65520 && within a.2.1 1 119 && within a.2.2.1 1 1000
def g47 : G1
  | [.rsl [.int .i64, .int .i64, .int .i64] xs, .val (.int .i64 l)], [], k =>
    br (decide (IntKind.i64.wrap (l - xs.length) < 0)) (k ⟨.val (.int .i64 (-1)), [], []⟩) (k ⟨.val (.int .i64 (IntKind.i64.wrap (l - xs.length))), [], []⟩)
  | _, _, _ => False
def g116 : G1
  | [.agg [.val (.int .i64 a), .val (.int .i64 b), .val (.int .i64 c)]], [], k => k ⟨.agg [.val (.int .i64 a), .val (.int .i64 b), .val (.int .i64 c)], [], []⟩
  | _, _, _ => False
def g118 : G1
  | [.agg [.val (.int .i64 a), .val (.int .i64 b), .val (.int .i64 c)]], [], k => k ⟨.val (.bool (entryOk (a, b, c, ()))), [], []⟩
  | _, _, _ => False
def g97 : G1
  | [.agg [.val (.int .i64 a), .val (.int .i64 b), .val (.int .i64 c)], .agg [.val (.int .i64 a'), .val (.int .i64 b'), .val (.int .i64 c')]], [], k => k ⟨.val (.bool (a == a' && b == b' && c == c')), [], []⟩
  | _, _, _ => False
def at3 (xs : List (Elem k3)) (i : Nat) : Elem k3 := xs.getD i (edflt k3)
def okAt (xs : List (Elem k3)) (i : Nat) : Bool := entryOk (at3 xs i) && (i == 0 || decide ((at3 xs (i - 1)).2.1 < (at3 xs i).2.1))
def ddtOk (xs : List (Elem k3)) : Bool := decide (xs.length ≤ 48) && (List.range xs.length).all (okAt xs)
def eq3 (a b : Elem k3) : Bool := a.1 == b.1 && a.2.1 == b.2.1 && a.2.2.1 == b.2.2.1
def eqF (xs ys : List (Elem k3)) : Bool := decide (xs.length = ys.length) && (List.range xs.length).all fun i => eq3 (at3 xs i) (at3 ys i)
def g59 : G1
  | [.rsl [.int .i64, .int .i64, .int .i64] xs], [], k => br (decide (xs.length ≤ 1048576)) (k ⟨.ows 0, [.row [.int .i64, .int .i64, .int .i64] xs], []⟩) False
  | _, _, _ => False
def g63 : G1
  | [.rsl [.int .i64, .int .i64, .int .i64] xs], [], k => br (decide (xs.length ≤ 1048576)) (k ⟨.val (.bool (ddtOk xs)), [], []⟩) False
  | _, _, _ => False
def g38 : G1
  | [.rsl [.int .i64, .int .i64, .int .i64] xs, .rsl [.int .i64, .int .i64, .int .i64] ys], [], k => br (decide (xs.length ≤ 1048576)) (k ⟨.val (.bool (eqF xs ys)), [], []⟩) False
  | _, _, _ => False
theorem e47 (L : Lp) (R : Option Res → Prop) (xs : List (Elem k3)) (l : Int) : (bodyP E0 (gk []) L Tryd.f47 [.rsl k3 xs, .val (.int .i64 l)] [] R) = (
    br (decide (IntKind.i64.wrap (l - (↑xs.length : Int)) < 0)) (R (some { av := vI (-1), obs := [], outs := [] })) (R (some { av := vI (IntKind.i64.wrap (l - (↑xs.length : Int))), obs := [], outs := [] }))) := by kernel_rfl
theorem e116 (L : Lp) (R : Option Res → Prop) (a b c : Int) : (bodyP E0 (gk []) L Tryd.f116 [.agg [.val (.int .i64 a), .val (.int .i64 b), .val (.int .i64 c)]] [] R) = (
    R (some { av := AV.agg [vI a, vI b, vI c], obs := [], outs := [] })) := by kernel_rfl
theorem e118 (L : Lp) (R : Option Res → Prop) (a b c : Int) : (bodyP E0 (gk [(62, g62)]) L Tryd.f118 [.agg [.val (.int .i64 a), .val (.int .i64 b), .val (.int .i64 c)]] [] R) = (
    br (decide (0 ≤ a) && decide (a ≤ 65520)) (br (decide (1 ≤ b) && decide (b ≤ 119)) (R (some { av := vB (decide (1 ≤ c) && decide (c ≤ 1000)), obs := [], outs := [] })) (R (some { av := vB false, obs := [], outs := [] }))) (R (some { av := vB false, obs := [], outs := [] }))) := by kernel_rfl
theorem e110 (L : Lp) (R : Option Res → Prop) (a b c : Int) : (bodyP E0 (gk []) L Tryd.f110 [.agg [.val (.int .i64 a), .val (.int .i64 b), .val (.int .i64 c)]] [] R) = (
    br (decide (a ≥ 0)) (br (decide (a < 65521)) (br (decide (b ≥ 1)) (br (decide (b < 120)) (br (decide (c ≥ 1)) (R (some { av := vB (decide (c ≤ 1000)), obs := [], outs := [] })) (R (some { av := vB false, obs := [], outs := [] }))) (R (some { av := vB false, obs := [], outs := [] }))) (R (some { av := vB false, obs := [], outs := [] }))) (R (some { av := vB false, obs := [], outs := [] }))) (R (some { av := vB false, obs := [], outs := [] }))) := by kernel_rfl
theorem e97 (L : Lp) (R : Option Res → Prop) (a b c a' b' c' : Int) : (bodyP E0 (gk []) L Tryd.f97 [.agg [.val (.int .i64 a), .val (.int .i64 b), .val (.int .i64 c)], .agg [.val (.int .i64 a'), .val (.int .i64 b'), .val (.int .i64 c')]] [] R) = (
    br (a != a') (R (some { av := vB false, obs := [], outs := [] })) (br (b != b') (R (some { av := vB false, obs := [], outs := [] })) (br (c != c') (R (some { av := vB false, obs := [], outs := [] })) (R (some { av := vB true, obs := [], outs := [] }))))) := by kernel_rfl
theorem h116 : G1Ok Tryd.prog 116 g116 := by
  intro args obs k h
  unfold g116 at h
  split at h
  · refine ⟨_, ctr_fn ok0 hg_nil Tryd.func116 (by kernel_rfl) (by kernel_rfl) (by kernel_rfl) fun C => ?_, h⟩
    rw [e116]
  · exact h.elim
theorem h118 : G1Ok Tryd.prog 118 g118 := by
  intro args obs k h
  unfold g118 at h
  split at h
  · refine ⟨_, ctr_fn ok0 (hg_cons h62 hg_nil) Tryd.func118 (by kernel_rfl) (by kernel_rfl) (by kernel_rfl) fun C => ?_, h⟩
    rw [e118]
    repeat' (first | refine br_intro (fun h => ?_) (fun h => ?_))
    all_goals simp [entryOk, within] at *
    all_goals grind
  · exact h.elim
theorem h110 : G1Ok Tryd.prog 110 g118 := by
  intro args obs k h
  unfold g118 at h
  split at h
  · refine ⟨_, ctr_fn ok0 hg_nil Tryd.func110 (by kernel_rfl) (by kernel_rfl) (by kernel_rfl) fun C => ?_, h⟩
    rw [e110]
    repeat' (first | refine br_intro (fun h => ?_) (fun h => ?_))
    all_goals simp [entryOk, within] at *
    all_goals grind
  · exact h.elim
theorem h97 : G1Ok Tryd.prog 97 g97 := by
  intro args obs k h
  unfold g97 at h
  split at h
  · refine ⟨_, ctr_fn ok0 hg_nil Tryd.func97 (by kernel_rfl) (by kernel_rfl) (by kernel_rfl) fun C => ?_, h⟩
    rw [e97]
    repeat' (first | refine br_intro (fun h => ?_) (fun h => ?_))
    all_goals simp at *
    all_goals grind
  · exact h.elim
theorem h47 : G1Ok Tryd.prog 47 g47 := by
  intro args obs k h
  unfold g47 at h
  split at h
  · rename_i k xs l
    have key : ∀ C, ∀ R, (decide (IntKind.i64.wrap (l - xs.length) < 0) = true → R (some ⟨.val (.int .i64 (-1)), [], []⟩)) → (decide (IntKind.i64.wrap (l - xs.length) < 0) = false → R (some ⟨.val (.int .i64 (IntKind.i64.wrap (l - xs.length))), [], []⟩)) → bodyP E0 (gk []) (LoopOk Tryd.prog C) Tryd.f47 [.rsl k3 xs, .val (.int .i64 l)] [] R := by
      intro C R h1 h2
      rw [e47]
      exact br_intro h1 h2
    cases hc : decide (IntKind.i64.wrap (l - xs.length) < 0) with
    | true =>
      rw [hc] at h
      exact ⟨_, ctr_fn ok0 hg_nil Tryd.func47 (by kernel_rfl) (by kernel_rfl) (by kernel_rfl) fun C => key C _ (fun _ => rfl) (fun h => by rw [hc] at h; cases h), h⟩
    | false =>
      rw [hc] at h
      exact ⟨_, ctr_fn ok0 hg_nil Tryd.func47 (by kernel_rfl) (by kernel_rfl) (by kernel_rfl) fun C => key C _ (fun h => by rw [hc] at h; cases h) (fun _ => rfl), h⟩
  · exact h.elim
noncomputable def E59 : Env := E0.of Tryd.f59
noncomputable def G59 : Gk := gk [(116, g116)]
noncomputable def lp59 (n : Nat) : Code := (loopOf n (codeOf Tryd.f59)).getD .skip
noncomputable def ct59 (L : Lp) (R : Option Res → Prop) (n : Nat) : Kt := contOf E59 G59 L n (codeOf Tryd.f59) (endK E59 Tryd.f59.results.toList R)
noncomputable def rk59 (L : Lp) (R : Option Res → Prop) (n : Nat) (N : St → Prop) : Kt := rk (jof E59 (lp59 n)) N (ct59 L R n)
noncomputable def rkn59 (L : Lp) (R : Option Res → Prop) (n : Nat) (N : St → Prop) (m : Nat) (N2 : St → Prop) : Kt := rk (jof E59 (lp59 m)) N2 (contOf E59 G59 L m (lp59 n) (rk59 L R n N))
noncomputable def LOOPN59 (L : Lp) (R : Option Res → Prop) (n : Nat) (N : St → Prop) (m : Nat) (st : St) : Prop := L (lp59 m) st (contOf E59 G59 L m (lp59 n) (rk59 L R n N))
noncomputable def LOOP59 (L : Lp) (R : Option Res → Prop) (n : Nat) (st : St) : Prop := L (lp59 n) st (ct59 L R n)
theorem hg59 : HG Tryd.prog G59 := (hg_cons h116 hg_nil)
theorem okf59 : Ok Tryd.prog E59 := ok0.of Tryd.f59
theorem e59 (L : Lp) (R : Option Res → Prop) (xs : List (Elem k3)) : (bodyP E0 G59 L Tryd.f59 [.rsl k3 xs] [] R) = (
    br (decide (0 ≤ (↑xs.length : Int) ∧ (↑xs.length : Int) ≤ (↑xs.length : Int) ∧ 24 * (↑xs.length : Int) ≤ 281474976710656)) (LOOP59 L R 3 { tm := [AV.rsl k3 xs, vU, AV.ows 0, AV.ows 1, vI 0, vJ, vJ, vJ, vJ, vJ, vJ, vJ, vJ, vJ, vJ, vJ, vJ, vJ, vJ, vJ, vJ, vJ, vU], ob := [(0, AO.row k3 []), (1, AO.row k3 (List.replicate (↑xs.length : Int).toNat (edflt k3)))], nx := 1000000, ps := [] }) False) := by kernel_rfl
def st59 (xs : List (Elem k3)) (i : Int) (ys : List (Elem k3)) : St :=  ⟨[AV.rsl k3 xs, vU, AV.ows 0, AV.ows 1, .val (.int .i64 i), vJ, vJ, vJ, vJ, vJ, vJ, vJ, vJ, vJ, vJ, vJ, vJ, vJ, vJ, vJ, vJ, vJ, vU], [(0, AO.row k3 []), (1, .row k3 ys)], 1000000, []⟩
theorem b59 (L : Lp) (R : Option Res → Prop) (N : St → Prop) (xs : List (Elem k3)) (i : Int) (ys : List (Elem k3)) : (evP E59 G59 L (lp59 3) (st59 xs i ys) (rk59 L R 3 N)) = (
    br (decide (i < (↑xs.length : Int))) (br (decide (0 ≤ i ∧ i < (↑xs.length : Int))) (br (decide (0 ≤ i ∧ i < (↑ys.length : Int))) (N { tm := [AV.rsl k3 xs, vU, AV.ows 0, AV.ows 1, vI (IntKind.i64.wrap (i + 1)), vJ, vJ, vJ, vJ, vJ, vJ, vJ, vJ, vJ, vJ, vJ, vJ, vJ, vJ, vJ, vJ, vJ, vU], ob := [(0, AO.row k3 []), (1, AO.row k3 (ys.set i.toNat (xs.getD i.toNat (edflt k3))))], nx := 1000000, ps := [] }) False) False) (R (some { av := AV.ows 0, obs := [AO.row k3 ys], outs := [] }))) := by kernel_rfl
noncomputable def E50 : Env := E0.of Tryd.f50
noncomputable def G50 : Gk := gk [(110, g118)]
noncomputable def lp50 (n : Nat) : Code := (loopOf n (codeOf Tryd.f50)).getD .skip
noncomputable def ct50 (L : Lp) (R : Option Res → Prop) (n : Nat) : Kt := contOf E50 G50 L n (codeOf Tryd.f50) (endK E50 Tryd.f50.results.toList R)
noncomputable def rk50 (L : Lp) (R : Option Res → Prop) (n : Nat) (N : St → Prop) : Kt := rk (jof E50 (lp50 n)) N (ct50 L R n)
noncomputable def rkn50 (L : Lp) (R : Option Res → Prop) (n : Nat) (N : St → Prop) (m : Nat) (N2 : St → Prop) : Kt := rk (jof E50 (lp50 m)) N2 (contOf E50 G50 L m (lp50 n) (rk50 L R n N))
noncomputable def LOOPN50 (L : Lp) (R : Option Res → Prop) (n : Nat) (N : St → Prop) (m : Nat) (st : St) : Prop := L (lp50 m) st (contOf E50 G50 L m (lp50 n) (rk50 L R n N))
noncomputable def LOOP50 (L : Lp) (R : Option Res → Prop) (n : Nat) (st : St) : Prop := L (lp50 n) st (ct50 L R n)
theorem hg50 : HG Tryd.prog G50 := (hg_cons h110 hg_nil)
theorem okf50 : Ok Tryd.prog E50 := ok0.of Tryd.f50
theorem e50 (L : Lp) (R : Option Res → Prop) (xs : List (Elem k3)) : (bodyP E0 G50 L Tryd.f50 [.rsl k3 xs] [] R) = (
    br (decide ((↑xs.length : Int) > 48)) (R (some { av := vB false, obs := [], outs := [] })) (LOOP50 L R 4 { tm := [AV.rsl k3 xs, vU, vB false, vI 0, vJ, vJ, vJ, vJ, vJ, vJ, vJ, vJ, vJ, vJ, vJ, vJ, vJ, vJ, vJ, vJ, vJ, vJ, vJ, vJ, vJ, vJ, vJ, vJ, vJ, vJ, vJ, vJ, vJ, vJ, vJ, vJ, vJ], ob := [], nx := 1000000, ps := [] })) := by kernel_rfl
def st50 (xs : List (Elem k3)) (i : Int) : St :=  ⟨[AV.rsl k3 xs, vU, vB false, .val (.int .i64 i), vJ, vJ, vJ, vJ, vJ, vJ, vJ, vJ, vJ, vJ, vJ, vJ, vJ, vJ, vJ, vJ, vJ, vJ, vJ, vJ, vJ, vJ, vJ, vJ, vJ, vJ, vJ, vJ, vJ, vJ, vJ, vJ, vJ], [], 1000000, []⟩
theorem b50 (L : Lp) (R : Option Res → Prop) (N : St → Prop) (xs : List (Elem k3)) (i : Int) : (evP E50 G50 L (lp50 4) (st50 xs i) (rk50 L R 4 N)) = (
    br (decide (i < (↑xs.length : Int))) (br (decide (0 ≤ i ∧ i < (↑xs.length : Int))) (br (!entryOk (xs.getD i.toNat (edflt k3))) (R (some { av := vB false, obs := [], outs := [] })) (br (decide (i > 0)) (br (decide (0 ≤ i ∧ i < (↑xs.length : Int))) (br (decide (0 ≤ IntKind.i64.wrap (i - 1) ∧ IntKind.i64.wrap (i - 1) < (↑xs.length : Int))) (br (decide ((xs.getD i.toNat (edflt k3)).snd.fst ≤ (xs.getD (IntKind.i64.wrap (i - 1)).toNat (edflt k3)).snd.fst)) (R (some { av := vB false, obs := [], outs := [] })) (N { tm := [AV.rsl k3 xs, vU, vB false, vI (IntKind.i64.wrap (i + 1)), vJ, vJ, vJ, vJ, vJ, vJ, vJ, vJ, vJ, vJ, vJ, vJ, vJ, vJ, vJ, vJ, vJ, vJ, vJ, vJ, vJ, vJ, vJ, vJ, vJ, vJ, vJ, vJ, vJ, vJ, vJ, vJ, vJ], ob := [], nx := 1000000, ps := [] })) False) False) (N { tm := [AV.rsl k3 xs, vU, vB false, vI (IntKind.i64.wrap (i + 1)), vJ, vJ, vJ, vJ, vJ, vJ, vJ, vJ, vJ, vJ, vJ, vJ, vJ, vJ, vJ, vJ, vJ, vJ, vJ, vJ, vJ, vJ, vJ, vJ, vJ, vJ, vJ, vJ, vJ, vJ, vJ, vJ, vJ], ob := [], nx := 1000000, ps := [] }))) False) (R (some { av := vB true, obs := [], outs := [] }))) := by kernel_rfl
noncomputable def E63 : Env := E0.of Tryd.f63
noncomputable def G63 : Gk := gk [(118, g118)]
noncomputable def lp63 (n : Nat) : Code := (loopOf n (codeOf Tryd.f63)).getD .skip
noncomputable def ct63 (L : Lp) (R : Option Res → Prop) (n : Nat) : Kt := contOf E63 G63 L n (codeOf Tryd.f63) (endK E63 Tryd.f63.results.toList R)
noncomputable def rk63 (L : Lp) (R : Option Res → Prop) (n : Nat) (N : St → Prop) : Kt := rk (jof E63 (lp63 n)) N (ct63 L R n)
noncomputable def rkn63 (L : Lp) (R : Option Res → Prop) (n : Nat) (N : St → Prop) (m : Nat) (N2 : St → Prop) : Kt := rk (jof E63 (lp63 m)) N2 (contOf E63 G63 L m (lp63 n) (rk63 L R n N))
noncomputable def LOOPN63 (L : Lp) (R : Option Res → Prop) (n : Nat) (N : St → Prop) (m : Nat) (st : St) : Prop := L (lp63 m) st (contOf E63 G63 L m (lp63 n) (rk63 L R n N))
noncomputable def LOOP63 (L : Lp) (R : Option Res → Prop) (n : Nat) (st : St) : Prop := L (lp63 n) st (ct63 L R n)
theorem hg63 : HG Tryd.prog G63 := (hg_cons h118 hg_nil)
theorem okf63 : Ok Tryd.prog E63 := ok0.of Tryd.f63
theorem e63 (L : Lp) (R : Option Res → Prop) (xs : List (Elem k3)) : (bodyP E0 G63 L Tryd.f63 [.rsl k3 xs] [] R) = (
    LOOP63 L R 2 { tm := [AV.rsl k3 xs, vU, vB false, vJ, vJ, AV.rsl k3 xs, vI (↑xs.length : Int), vI 0, vJ, vJ, vJ, vJ, vJ, vJ, vJ, vJ, vJ, vJ, vJ, vJ, vJ, vJ, vJ, vJ, vJ, vJ, vJ, vJ, vJ, vJ, vJ, vU, vU, vU], ob := [], nx := 1000000, ps := [] }) := by kernel_rfl
def st63 (xs : List (Elem k3)) (i : Int) : St :=  ⟨[AV.rsl k3 xs, vU, vB false, vJ, vJ, AV.rsl k3 xs, vI (↑xs.length : Int), .val (.int .i64 i), vJ, vJ, vJ, vJ, vJ, vJ, vJ, vJ, vJ, vJ, vJ, vJ, vJ, vJ, vJ, vJ, vJ, vJ, vJ, vJ, vJ, vJ, vJ, vU, vU, vU], [], 1000000, []⟩
theorem b63 (L : Lp) (R : Option Res → Prop) (N : St → Prop) (xs : List (Elem k3)) (i : Int) : (evP E63 G63 L (lp63 2) (st63 xs i) (rk63 L R 2 N)) = (
    br (decide (i < (↑xs.length : Int))) (br (decide (0 ≤ i ∧ i < (↑xs.length : Int))) (br (!entryOk (xs.getD i.toNat (edflt k3))) (R (some { av := vB false, obs := [], outs := [] })) (br (decide (i > 0)) (br (decide (0 ≤ IntKind.i64.wrap (i - 1) ∧ IntKind.i64.wrap (i - 1) < (↑xs.length : Int))) (br (decide ((xs.getD (IntKind.i64.wrap (i - 1)).toNat (edflt k3)).snd.fst ≥ (xs.getD i.toNat (edflt k3)).snd.fst)) (R (some { av := vB false, obs := [], outs := [] })) (N { tm := [AV.rsl k3 xs, vU, vB false, vJ, vJ, AV.rsl k3 xs, vI (↑xs.length : Int), vI (IntKind.i64.wrap (i + 1)), vJ, vJ, vJ, vJ, vJ, vJ, vJ, vJ, vJ, vJ, vJ, vJ, vJ, vJ, vJ, vJ, vJ, vJ, vJ, vJ, vJ, vJ, vJ, vU, vU, vU], ob := [], nx := 1000000, ps := [] })) False) (N { tm := [AV.rsl k3 xs, vU, vB false, vJ, vJ, AV.rsl k3 xs, vI (↑xs.length : Int), vI (IntKind.i64.wrap (i + 1)), vJ, vJ, vJ, vJ, vJ, vJ, vJ, vJ, vJ, vJ, vJ, vJ, vJ, vJ, vJ, vJ, vJ, vJ, vJ, vJ, vJ, vJ, vJ, vU, vU, vU], ob := [], nx := 1000000, ps := [] }))) False) (R (some { av := vB (decide ((↑xs.length : Int) ≤ 48)), obs := [], outs := [] }))) := by kernel_rfl
noncomputable def E38 : Env := E0.of Tryd.f38
noncomputable def G38 : Gk := gk [(97, g97)]
noncomputable def lp38 (n : Nat) : Code := (loopOf n (codeOf Tryd.f38)).getD .skip
noncomputable def ct38 (L : Lp) (R : Option Res → Prop) (n : Nat) : Kt := contOf E38 G38 L n (codeOf Tryd.f38) (endK E38 Tryd.f38.results.toList R)
noncomputable def rk38 (L : Lp) (R : Option Res → Prop) (n : Nat) (N : St → Prop) : Kt := rk (jof E38 (lp38 n)) N (ct38 L R n)
noncomputable def rkn38 (L : Lp) (R : Option Res → Prop) (n : Nat) (N : St → Prop) (m : Nat) (N2 : St → Prop) : Kt := rk (jof E38 (lp38 m)) N2 (contOf E38 G38 L m (lp38 n) (rk38 L R n N))
noncomputable def LOOPN38 (L : Lp) (R : Option Res → Prop) (n : Nat) (N : St → Prop) (m : Nat) (st : St) : Prop := L (lp38 m) st (contOf E38 G38 L m (lp38 n) (rk38 L R n N))
noncomputable def LOOP38 (L : Lp) (R : Option Res → Prop) (n : Nat) (st : St) : Prop := L (lp38 n) st (ct38 L R n)
theorem hg38 : HG Tryd.prog G38 := (hg_cons h97 hg_nil)
theorem okf38 : Ok Tryd.prog E38 := ok0.of Tryd.f38
theorem e38 (L : Lp) (R : Option Res → Prop) (xs ys : List (Elem k3)) : (bodyP E0 G38 L Tryd.f38 [.rsl k3 xs, .rsl k3 ys] [] R) = (
    br ((↑xs.length : Int) != (↑ys.length : Int)) (R (some { av := vB false, obs := [], outs := [] })) (LOOP38 L R 4 { tm := [AV.rsl k3 xs, AV.rsl k3 ys, vU, vU, vB false, vI 0, vJ, vJ, vJ, vJ, vJ, vJ, vJ, vJ, vJ, vJ, vJ, vJ, vJ, vJ, vJ, vJ, vJ, vJ, vJ, vJ, vJ], ob := [], nx := 1000000, ps := [] })) := by kernel_rfl
def st38 (xs ys : List (Elem k3)) (i : Int) : St :=  ⟨[AV.rsl k3 xs, AV.rsl k3 ys, vU, vU, vB false, .val (.int .i64 i), vJ, vJ, vJ, vJ, vJ, vJ, vJ, vJ, vJ, vJ, vJ, vJ, vJ, vJ, vJ, vJ, vJ, vJ, vJ, vJ, vJ], [], 1000000, []⟩
theorem b38 (L : Lp) (R : Option Res → Prop) (N : St → Prop) (xs ys : List (Elem k3)) (i : Int) : (evP E38 G38 L (lp38 4) (st38 xs ys i) (rk38 L R 4 N)) = (
    br (decide (i < (↑xs.length : Int))) (br (decide (0 ≤ i ∧ i < (↑xs.length : Int))) (br (decide (0 ≤ i ∧ i < (↑ys.length : Int))) (br (!((xs.getD i.toNat (edflt k3)).fst == (ys.getD i.toNat (edflt k3)).fst && (xs.getD i.toNat (edflt k3)).snd.fst == (ys.getD i.toNat (edflt k3)).snd.fst && (xs.getD i.toNat (edflt k3)).snd.snd.fst == (ys.getD i.toNat (edflt k3)).snd.snd.fst)) (R (some { av := vB false, obs := [], outs := [] })) (N { tm := [AV.rsl k3 xs, AV.rsl k3 ys, vU, vU, vB false, vI (IntKind.i64.wrap (i + 1)), vJ, vJ, vJ, vJ, vJ, vJ, vJ, vJ, vJ, vJ, vJ, vJ, vJ, vJ, vJ, vJ, vJ, vJ, vJ, vJ, vJ], ob := [], nx := 1000000, ps := [] })) False) False) (R (some { av := vB true, obs := [], outs := [] }))) := by kernel_rfl
theorem h63 : G1Ok Tryd.prog 63 g63 := by
  intro args obs k h
  unfold g63 at h
  split at h
  · rename_i k xs
    obtain ⟨hlen, h⟩ := br_and h
    simp at hlen
    refine ⟨_, ctr_fn ok0 hg63 Tryd.func63 (by kernel_rfl) (by kernel_rfl) (by kernel_rfl) fun C => ?_, h⟩
    rw [e63]
    exact loopR okf63 hg63 (ι := {i : Int // 0 ≤ i ∧ i ≤ xs.length ∧ ∀ j : Nat, (j : Int) < i → okAt xs j = true}) (fun i => st63 xs i.1) (fun i => (xs.length - i.1).toNat) (fun ⟨i, h0, h1, hall⟩ => by
      show evP E63 G63 _ (lp63 2) (st63 xs i) (rk63 _ _ 2 _)
      rw [b63]
      have hw1 : IntKind.i64.wrap (i + 1) = i + 1 := wrap_id (by omega) (by omega)
      have hw2 : IntKind.i64.wrap (i - 1) = i - 1 := wrap_id (by omega) (by omega)
      rw [hw1, hw2]
      refine br_intro (fun h2 => ?_) (fun h2 => ?_)
      · simp at h2
        have hi : ((i.toNat : Nat) : Int) = i := by omega
        have bad : okAt xs i.toNat = false → ddtOk xs = false := by
          intro hb
          have : (List.range xs.length).all (okAt xs) = false := by
            rw [List.all_eq_false]
            exact ⟨i.toNat, by simp; omega, by simp [hb]⟩
          simp [ddtOk, this]
        have next : okAt xs i.toNat = true → ∃ j : {i : Int // 0 ≤ i ∧ i ≤ xs.length ∧ ∀ j : Nat, (j : Int) < i → okAt xs j = true}, st63 xs (i + 1) = st63 xs j.1 ∧ (xs.length - j.1).toNat < (xs.length - i).toNat := by
          intro hok
          refine ⟨⟨i + 1, by omega, by omega, fun j hj => ?_⟩, rfl, by show (xs.length - (i + 1)).toNat < _; omega⟩
          by_cases e : (j : Int) < i
          · exact hall j e
          · have : j = i.toNat := by omega
            rw [this]; exact hok
        refine br_intro (fun _ => ?_) (fun h3 => by simp at h3; omega)
        refine br_intro (fun h3 => ?_) (fun h3 => ?_)
        · show _ = _
          rw [bad (by unfold okAt at3; simp at h3; simp [h3])]
        · simp at h3
          refine br_intro (fun h4 => ?_) (fun h4 => ?_)
          · simp at h4
            have hj : (i - 1).toNat = i.toNat - 1 := by omega
            have hne : ¬ i.toNat = 0 := by omega
            refine br_intro (fun _ => ?_) (fun h5 => by simp at h5; omega)
            refine br_intro (fun h5 => ?_) (fun h5 => ?_)
            · show _ = _
              rw [bad (by unfold okAt at3; rw [hj] at h5; simp at h5; simp [hne]; intro _; omega)]
            · exact next (by unfold okAt at3; rw [hj] at h5; simp at h5; simp [hne, h3]; omega)
          · simp at h4
            have h0' : i.toNat = 0 := by omega
            exact next (by unfold okAt at3; simp [h0'] at h3 ⊢; simp [h3])
      · simp at h2
        show _ = _
        have : (List.range xs.length).all (okAt xs) = true := by
          rw [List.all_eq_true]
          intro j hj
          exact hall j (by simp at hj; omega)
        have e : decide ((xs.length : Int) ≤ 48) = decide (xs.length ≤ 48) := by
          apply decide_eq_decide.2; omega
        rw [e]
        simp [ddtOk, this]) ⟨0, by omega, by omega, fun j hj => by omega⟩
  · exact h.elim
theorem h50 : G1Ok Tryd.prog 50 g63 := by
  intro args obs k h
  unfold g63 at h
  split at h
  · rename_i k xs
    obtain ⟨hlen, h⟩ := br_and h
    simp at hlen
    refine ⟨_, ctr_fn ok0 hg50 Tryd.func50 (by kernel_rfl) (by kernel_rfl) (by kernel_rfl) fun C => ?_, h⟩
    rw [e50]
    refine br_intro (fun hb => ?_) (fun hb => ?_)
    · simp at hb
      have : ddtOk xs = false := by simp [ddtOk]; omega
      rw [this]
    have h153 : xs.length ≤ 48 := by simp at hb; omega
    have hb' : decide ((xs.length : Int) > 48) = false := hb
    exact loopR okf50 hg50 (ι := {i : Int // 0 ≤ i ∧ i ≤ xs.length ∧ ∀ j : Nat, (j : Int) < i → okAt xs j = true}) (fun i => st50 xs i.1) (fun i => (xs.length - i.1).toNat) (fun ⟨i, h0, h1, hall⟩ => by
      show evP E50 G50 _ (lp50 4) (st50 xs i) (rk50 _ _ 4 _)
      rw [b50]
      have hw1 : IntKind.i64.wrap (i + 1) = i + 1 := wrap_id (by omega) (by omega)
      have hw2 : IntKind.i64.wrap (i - 1) = i - 1 := wrap_id (by omega) (by omega)
      rw [hw1, hw2]
      refine br_intro (fun h2 => ?_) (fun h2 => ?_)
      · simp at h2
        have hi : ((i.toNat : Nat) : Int) = i := by omega
        have bad : okAt xs i.toNat = false → ddtOk xs = false := by
          intro hb
          have : (List.range xs.length).all (okAt xs) = false := by
            rw [List.all_eq_false]
            exact ⟨i.toNat, by simp; omega, by simp [hb]⟩
          simp [ddtOk, this]
        have next : okAt xs i.toNat = true → ∃ j : {i : Int // 0 ≤ i ∧ i ≤ xs.length ∧ ∀ j : Nat, (j : Int) < i → okAt xs j = true}, st50 xs (i + 1) = st50 xs j.1 ∧ (xs.length - j.1).toNat < (xs.length - i).toNat := by
          intro hok
          refine ⟨⟨i + 1, by omega, by omega, fun j hj => ?_⟩, rfl, by show (xs.length - (i + 1)).toNat < _; omega⟩
          by_cases e : (j : Int) < i
          · exact hall j e
          · have : j = i.toNat := by omega
            rw [this]; exact hok
        refine br_intro (fun _ => ?_) (fun h3 => by simp at h3; omega)
        refine br_intro (fun h3 => ?_) (fun h3 => ?_)
        · show _ = _
          rw [bad (by unfold okAt at3; simp at h3; simp [h3])]
        · simp at h3
          refine br_intro (fun h4 => ?_) (fun h4 => ?_)
          · simp at h4
            have hj : (i - 1).toNat = i.toNat - 1 := by omega
            have hne : ¬ i.toNat = 0 := by omega
            refine br_intro (fun _ => ?_) (fun h5 => by simp at h5; omega)
            refine br_intro (fun _ => ?_) (fun h5 => by simp at h5; omega)
            refine br_intro (fun h5 => ?_) (fun h5 => ?_)
            · show _ = _
              rw [bad (by unfold okAt at3; rw [hj] at h5; simp at h5; simp [hne]; intro _; omega)]
            · exact next (by unfold okAt at3; rw [hj] at h5; simp at h5; simp [hne, h3]; omega)
          · simp at h4
            have h0' : i.toNat = 0 := by omega
            exact next (by unfold okAt at3; simp [h0'] at h3 ⊢; simp [h3])
      · simp at h2
        show _ = _
        have : (List.range xs.length).all (okAt xs) = true := by
          rw [List.all_eq_true]
          intro j hj
          exact hall j (by simp at hj; omega)
        simp [ddtOk, this, h153]) ⟨0, by omega, by omega, fun j hj => by omega⟩
  · exact h.elim
theorem h38 : G1Ok Tryd.prog 38 g38 := by
  intro args obs k h
  unfold g38 at h
  split at h
  · rename_i k xs ys
    obtain ⟨hlen, h⟩ := br_and h
    simp at hlen
    refine ⟨_, ctr_fn ok0 hg38 Tryd.func38 (by kernel_rfl) (by kernel_rfl) (by kernel_rfl) fun C => ?_, h⟩
    rw [e38]
    refine br_intro (fun hb => ?_) (fun hb => ?_)
    · simp at hb
      have : eqF xs ys = false := by simp [eqF]; omega
      rw [this]
    have hl : xs.length = ys.length := by simp at hb; omega
    exact loopR okf38 hg38 (ι := {i : Int // 0 ≤ i ∧ i ≤ xs.length ∧ ∀ j : Nat, (j : Int) < i → eq3 (at3 xs j) (at3 ys j) = true}) (fun i => st38 xs ys i.1) (fun i => (xs.length - i.1).toNat) (fun ⟨i, h0, h1, hall⟩ => by
      show evP E38 G38 _ (lp38 4) (st38 xs ys i) (rk38 _ _ 4 _)
      rw [b38]
      have hw1 : IntKind.i64.wrap (i + 1) = i + 1 := wrap_id (by omega) (by omega)
      rw [hw1]
      refine br_intro (fun h2 => ?_) (fun h2 => ?_)
      · simp at h2
        refine br_intro (fun _ => ?_) (fun h3 => by simp at h3; omega)
        refine br_intro (fun _ => ?_) (fun h3 => by simp at h3; omega)
        refine br_intro (fun h3 => ?_) (fun h3 => ?_)
        · show _ = _
          have hb : eq3 (at3 xs i.toNat) (at3 ys i.toNat) = false := by
            rw [Bool.not_eq_true'] at h3
            exact h3
          have : eqF xs ys = false := by
            have : ((List.range xs.length).all fun i => eq3 (at3 xs i) (at3 ys i)) = false := by
              rw [List.all_eq_false]
              exact ⟨i.toNat, by simp; omega, by simp [hb]⟩
            simp [eqF, this]
          rw [this]
        · have hok : eq3 (at3 xs i.toNat) (at3 ys i.toNat) = true := by
            rw [Bool.not_eq_false'] at h3
            exact h3
          refine ⟨⟨i + 1, by omega, by omega, fun j hj => ?_⟩, rfl, by show (xs.length - (i + 1)).toNat < (xs.length - i).toNat; omega⟩
          by_cases e : (j : Int) < i
          · exact hall j e
          · have : j = i.toNat := by omega
            rw [this]; exact hok
      · simp at h2
        show _ = _
        have : ((List.range xs.length).all fun i => eq3 (at3 xs i) (at3 ys i)) = true := by
          rw [List.all_eq_true]
          intro j hj
          exact hall j (by simp at hj; omega)
        unfold eqF
        rw [this]
        simp [hl]) ⟨0, by omega, by omega, fun j hj => by omega⟩
  · exact h.elim
theorem take_set_next {α : Type} (xs ys : List α) (n : Nat) (e : α) (hx : xs[n]? = some e) (hy : ys.take n = xs.take n) (hl : n < ys.length) : (ys.set n e).take (n + 1) = xs.take (n + 1) := by
  rw [List.take_add_one, List.take_add_one, List.take_set_of_le (Nat.le_refl n), hy, List.getElem?_set_self hl, hx]
theorem h59 : G1Ok Tryd.prog 59 g59 := by
  intro args obs k h
  unfold g59 at h
  split at h
  · rename_i k xs
    obtain ⟨hlen, h⟩ := br_and h
    simp at hlen
    refine ⟨_, ctr_fn ok0 hg59 Tryd.func59 (by kernel_rfl) (by kernel_rfl) (by kernel_rfl) fun C => ?_, h⟩
    rw [e59]
    refine br_intro (fun hb => ?_) (fun hb => by simp at hb; omega)
    exact loopR okf59 hg59 (ι := {p : Int × List (Elem k3) // 0 ≤ p.1 ∧ p.1 ≤ xs.length ∧ p.2.length = xs.length ∧ p.2.take p.1.toNat = xs.take p.1.toNat}) (fun p => st59 xs p.1.1 p.1.2) (fun p => (xs.length - p.1.1).toNat) (fun ⟨(i, ys), h0, h1, hl, ht⟩ => by
      show evP E59 G59 _ (lp59 3) (st59 xs i ys) (rk59 _ _ 3 _)
      rw [b59]
      simp only at h0 h1 hl ht
      have hw1 : IntKind.i64.wrap (i + 1) = i + 1 := wrap_id (by omega) (by omega)
      rw [hw1]
      refine br_intro (fun h2 => ?_) (fun h2 => ?_)
      · simp at h2
        refine br_intro (fun _ => ?_) (fun h3 => by simp at h3; omega)
        refine br_intro (fun _ => ?_) (fun h3 => by simp at h3; omega)
        refine ⟨⟨(i + 1, ys.set i.toNat (at3 xs i.toNat)), by show 0 ≤ i + 1; omega, by show i + 1 ≤ _; omega, by simp [hl], ?_⟩, rfl, by show (xs.length - (i + 1)).toNat < (xs.length - i).toNat; omega⟩
        have e : (i + 1).toNat = i.toNat + 1 := by omega
        show (ys.set i.toNat _).take (i + 1).toNat = xs.take (i + 1).toNat
        rw [e]
        have hi : i.toNat < xs.length := by omega
        exact take_set_next xs ys i.toNat _ (by unfold at3; rw [List.getD_eq_getElem?_getD, List.getElem?_eq_getElem hi]; rfl) ht (by omega)
      · simp at h2
        show _ = _
        have e : i.toNat = xs.length := by omega
        rw [e, List.take_of_length_le (by omega), List.take_of_length_le (by omega)] at ht
        rw [ht]) ⟨(0, List.replicate xs.length (0, 0, 0, ())), by simp, by simp, by simp, by simp⟩
  · exact h.elim
end Go.Proofs.YtljilcingbohkabDoor.Ev

