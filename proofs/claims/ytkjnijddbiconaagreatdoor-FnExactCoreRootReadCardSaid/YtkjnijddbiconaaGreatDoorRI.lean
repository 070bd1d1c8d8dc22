/- The law of CoreRootRead: marks in cores, with contents. -/
import Derived.Test.YtkjnijddbiconaaGreatDoorRH
namespace Go.Proofs.YtkjnijddbiconaaGreatDoor.Ev
open Go
set_option linter.unusedVariables false
set_option linter.unusedSimpArgs false
set_option maxRecDepth 100000
set_option maxHeartbeats 1000000
def g102 : G1
  | [.rsl [.int .i64, .int .i64, .int .i64] xs, .val (.int .i64 n)], [], k => br (inM n xs.length) (k ⟨.val (.int .i64 (hdR (hdB k3 mk3 3 n xs) (n + ((3 * xs.length : Nat) : Int)))), [], []⟩) False
  | _, _, _ => False
noncomputable def E102 : Env := E1.of Tryz.f102
noncomputable def G102 : Gk := gk []
noncomputable def lp102 (n : Nat) : Code := (loopOf n (codeOf Tryz.f102)).getD .skip
noncomputable def ct102 (L : Lp) (R : Option Res → Prop) (n : Nat) : Kt := contOf E102 G102 L n (codeOf Tryz.f102) (endK E102 Tryz.f102.results.toList R)
noncomputable def rk102 (L : Lp) (R : Option Res → Prop) (n : Nat) (N : St → Prop) : Kt := rk (jof E102 (lp102 n)) N (ct102 L R n)
noncomputable def LOOP102 (L : Lp) (R : Option Res → Prop) (n : Nat) (st : St) : Prop := L (lp102 n) st (ct102 L R n)
theorem hg102 : HG Tryz.prog G102 := hg_nil
theorem okf102 : Ok Tryz.prog E102 := ok1.of Tryz.f102
theorem e102 (L : Lp) (R : Option Res → Prop) (xs : List (Elem k3)) (n : Int) : (bodyP E1 G102 L Tryz.f102 [.rsl k3 xs, .val (.int .i64 n)] [] R) = (
    LOOP102 L R 2 { tm := [AV.rsl k3 xs, vI n, vU, vU, vI 0, vI 0, vJ, vJ, vJ, vJ, vJ, vJ, vJ, vJ, vJ, vJ, vJ, vJ, vJ, vJ, vJ, vJ, vJ, vJ, vJ, vJ, vJ, vJ, vJ, vJ, vJ, vJ, vJ, vJ, vJ, vJ, vJ, vJ, vJ, vU], ob := [], nx := 1000000, ps := [] }) := by kernel_rfl
def st102 (xs : List (Elem k3)) (n i : Int) : St :=  ⟨[AV.rsl k3 xs, .val (.int .i64 n), vU, vU, vI 0, .val (.int .i64 i), vJ, vJ, vJ, vJ, vJ, vJ, vJ, vJ, vJ, vJ, vJ, vJ, vJ, vJ, vJ, vJ, vJ, vJ, vJ, vJ, vJ, vJ, vJ, vJ, vJ, vJ, vJ, vJ, vJ, vJ, vJ, vJ, vJ, vU], [], 1000000, []⟩
theorem b102 (L : Lp) (R : Option Res → Prop) (N : St → Prop) (xs : List (Elem k3)) (n i : Int) : (evP E102 G102 L (lp102 2) (st102 xs n i) (rk102 L R 2 N)) = (
    br (decide (i < (↑xs.length : Int))) (br (decide (0 ≤ i ∧ i < (↑xs.length : Int))) (br ((xs.getD i.toNat (edflt k3)).fst != n) (R (some { av := vI (-1), obs := [], outs := [] })) (br (decide (0 ≤ i ∧ i < (↑xs.length : Int))) (br ((xs.getD i.toNat (edflt k3)).snd.fst != IntKind.i64.wrap (n + 1)) (R (some { av := vI (-1), obs := [], outs := [] })) (br (decide (0 ≤ i ∧ i < (↑xs.length : Int))) (br ((xs.getD i.toNat (edflt k3)).snd.snd.fst != IntKind.i64.wrap (IntKind.i64.wrap (n + 1) + 1)) (R (some { av := vI (-1), obs := [], outs := [] })) (N { tm := [AV.rsl k3 xs, vI (IntKind.i64.wrap (IntKind.i64.wrap (IntKind.i64.wrap (n + 1) + 1) + 1)), vU, vU, vI 0, vI (IntKind.i64.wrap (i + 1)), vJ, vJ, vJ, vJ, vJ, vJ, vJ, vJ, vJ, vJ, vJ, vJ, vJ, vJ, vJ, vJ, vJ, vJ, vJ, vJ, vJ, vJ, vJ, vJ, vJ, vJ, vJ, vJ, vJ, vJ, vJ, vJ, vJ, vU], ob := [], nx := 1000000, ps := [] })) False)) False)) False) (R (some { av := vI n, obs := [], outs := [] }))) := by kernel_rfl
theorem h102 : G1Ok Tryz.prog 102 g102 := by
  intro args obs k h
  unfold g102 at h
  split at h
  · rename_i k xs n
    obtain ⟨hp, h⟩ := br_and h
    simp only [inM, decide_eq_true_eq] at hp
    refine ⟨_, ctr_fn ok1 hg102 Tryz.func102 (by kernel_rfl) (by kernel_rfl) (by kernel_rfl) fun C => ?_, h⟩
    rw [e102]
    refine loopUp okf102 hg102 (fun i (m : Int) => st102 xs m i) xs.length (fun i m => (∀ j, j < i → elemEq k3 (xs.getD j (edflt k3)) (mk3 (n + ((3 * j : Nat) : Int))) = true) ∧ m = n + ((3 * i : Nat) : Int)) (fun N i m hi ⟨hall, hm⟩ next => ?_) n ⟨fun j hj => by omega, by simp⟩
    show evP E102 G102 _ (lp102 2) (st102 xs m i) (rk102 _ _ 2 _)
    rw [b102, wrap_id (n := (i : Int) + 1) (by omega) (by omega), Int.toNat_natCast, wrap_id (n := m + 1) (by omega) (by omega), wrap_id (n := m + 1 + 1) (by omega) (by omega), wrap_id (n := m + 1 + 1 + 1) (by omega) (by omega)]
    have he : elemEq k3 (xs.getD i (edflt k3)) (mk3 (n + ((3 * i : Nat) : Int))) = ((xs.getD i (edflt k3)).1==m&&((xs.getD i (edflt k3)).2.1==m+1&&(xs.getD i (edflt k3)).2.2.1==m+1+1)) := by
      rw [← hm]
      unfold mk3
      rw [show m + 2 = m + 1 + 1 from by omega]
      rfl
    refine br_dec (fun h2 => ?_) (fun h2 => ?_)
    · have fails : elemEq k3 (xs.getD i (edflt k3)) (mk3 (n + ((3 * i : Nat) : Int))) = false → (-1 : Int) = hdR (hdB k3 mk3 3 n xs) (n + ((3 * xs.length : Nat) : Int)) := by
        intro hf
        rw [show hdB k3 mk3 3 n xs = false from allB_f (i := i) (by omega) hf]
        rfl
      refine br_yes ⟨by omega, by omega⟩ (br_bne (fun q0 => ?_) (fun q0 => br_yes ⟨by omega, by omega⟩ (br_bne (fun q1 => ?_) (fun q1 => br_yes ⟨by omega, by omega⟩ (br_bne (fun q2 => ?_) (fun q2 => ?_))))))
      · show _ = _
        rw [fails (by rw [he, q0] <;> rfl)]
      · show _ = _
        rw [fails (by rw [he, q0, q1] <;> rfl)]
      · show _ = _
        rw [fails (by rw [he, q0, q1, q2] <;> rfl)]
      · refine next (by omega) _ ⟨fun j hj => ?_, by omega⟩
        by_cases e : j < i
        · exact hall j e
        · have : j = i := by omega
          rw [this, he, q0, q1, q2]
          rfl
    · have hi' : i = xs.length := by omega
      show _ = _
      rw [show hdB k3 mk3 3 n xs = true from allB_t fun j hj => hall j (by omega), hm, hi']
      rfl
  · exact h.elim
def g103 : G1
  | [.rsl [.int .i64, .int .i64, .int .i64] xs, .val (.int .i64 n)], [], k => br (inM n xs.length) (k ⟨.val (.int .i64 (hdR (hdB k3 mk3 3 n xs) (n + ((3 * xs.length : Nat) : Int)))), [], []⟩) False
  | _, _, _ => False
noncomputable def E103 : Env := E1.of Tryz.f103
noncomputable def G103 : Gk := gk []
noncomputable def lp103 (n : Nat) : Code := (loopOf n (codeOf Tryz.f103)).getD .skip
noncomputable def ct103 (L : Lp) (R : Option Res → Prop) (n : Nat) : Kt := contOf E103 G103 L n (codeOf Tryz.f103) (endK E103 Tryz.f103.results.toList R)
noncomputable def rk103 (L : Lp) (R : Option Res → Prop) (n : Nat) (N : St → Prop) : Kt := rk (jof E103 (lp103 n)) N (ct103 L R n)
noncomputable def LOOP103 (L : Lp) (R : Option Res → Prop) (n : Nat) (st : St) : Prop := L (lp103 n) st (ct103 L R n)
theorem hg103 : HG Tryz.prog G103 := hg_nil
theorem okf103 : Ok Tryz.prog E103 := ok1.of Tryz.f103
theorem e103 (L : Lp) (R : Option Res → Prop) (xs : List (Elem k3)) (n : Int) : (bodyP E1 G103 L Tryz.f103 [.rsl k3 xs, .val (.int .i64 n)] [] R) = (
    LOOP103 L R 2 { tm := [AV.rsl k3 xs, vI n, vU, vU, vI 0, vI 0, vJ, vJ, vJ, vJ, vJ, vJ, vJ, vJ, vJ, vJ, vJ, vJ, vJ, vJ, vJ, vJ, vJ, vJ, vJ, vJ, vJ, vJ, vJ, vJ, vJ, vJ, vJ, vJ, vJ, vJ, vJ, vJ, vJ, vU], ob := [], nx := 1000000, ps := [] }) := by kernel_rfl
def st103 (xs : List (Elem k3)) (n i : Int) : St :=  ⟨[AV.rsl k3 xs, .val (.int .i64 n), vU, vU, vI 0, .val (.int .i64 i), vJ, vJ, vJ, vJ, vJ, vJ, vJ, vJ, vJ, vJ, vJ, vJ, vJ, vJ, vJ, vJ, vJ, vJ, vJ, vJ, vJ, vJ, vJ, vJ, vJ, vJ, vJ, vJ, vJ, vJ, vJ, vJ, vJ, vU], [], 1000000, []⟩
theorem b103 (L : Lp) (R : Option Res → Prop) (N : St → Prop) (xs : List (Elem k3)) (n i : Int) : (evP E103 G103 L (lp103 2) (st103 xs n i) (rk103 L R 2 N)) = (
    br (decide (i < (↑xs.length : Int))) (br (decide (0 ≤ i ∧ i < (↑xs.length : Int))) (br ((xs.getD i.toNat (edflt k3)).fst != n) (R (some { av := vI (-1), obs := [], outs := [] })) (br (decide (0 ≤ i ∧ i < (↑xs.length : Int))) (br ((xs.getD i.toNat (edflt k3)).snd.fst != IntKind.i64.wrap (n + 1)) (R (some { av := vI (-1), obs := [], outs := [] })) (br (decide (0 ≤ i ∧ i < (↑xs.length : Int))) (br ((xs.getD i.toNat (edflt k3)).snd.snd.fst != IntKind.i64.wrap (IntKind.i64.wrap (n + 1) + 1)) (R (some { av := vI (-1), obs := [], outs := [] })) (N { tm := [AV.rsl k3 xs, vI (IntKind.i64.wrap (IntKind.i64.wrap (IntKind.i64.wrap (n + 1) + 1) + 1)), vU, vU, vI 0, vI (IntKind.i64.wrap (i + 1)), vJ, vJ, vJ, vJ, vJ, vJ, vJ, vJ, vJ, vJ, vJ, vJ, vJ, vJ, vJ, vJ, vJ, vJ, vJ, vJ, vJ, vJ, vJ, vJ, vJ, vJ, vJ, vJ, vJ, vJ, vJ, vJ, vJ, vU], ob := [], nx := 1000000, ps := [] })) False)) False)) False) (R (some { av := vI n, obs := [], outs := [] }))) := by kernel_rfl
theorem h103 : G1Ok Tryz.prog 103 g103 := by
  intro args obs k h
  unfold g103 at h
  split at h
  · rename_i k xs n
    obtain ⟨hp, h⟩ := br_and h
    simp only [inM, decide_eq_true_eq] at hp
    refine ⟨_, ctr_fn ok1 hg103 Tryz.func103 (by kernel_rfl) (by kernel_rfl) (by kernel_rfl) fun C => ?_, h⟩
    rw [e103]
    refine loopUp okf103 hg103 (fun i (m : Int) => st103 xs m i) xs.length (fun i m => (∀ j, j < i → elemEq k3 (xs.getD j (edflt k3)) (mk3 (n + ((3 * j : Nat) : Int))) = true) ∧ m = n + ((3 * i : Nat) : Int)) (fun N i m hi ⟨hall, hm⟩ next => ?_) n ⟨fun j hj => by omega, by simp⟩
    show evP E103 G103 _ (lp103 2) (st103 xs m i) (rk103 _ _ 2 _)
    rw [b103, wrap_id (n := (i : Int) + 1) (by omega) (by omega), Int.toNat_natCast, wrap_id (n := m + 1) (by omega) (by omega), wrap_id (n := m + 1 + 1) (by omega) (by omega), wrap_id (n := m + 1 + 1 + 1) (by omega) (by omega)]
    have he : elemEq k3 (xs.getD i (edflt k3)) (mk3 (n + ((3 * i : Nat) : Int))) = ((xs.getD i (edflt k3)).1==m&&((xs.getD i (edflt k3)).2.1==m+1&&(xs.getD i (edflt k3)).2.2.1==m+1+1)) := by
      rw [← hm]
      unfold mk3
      rw [show m + 2 = m + 1 + 1 from by omega]
      rfl
    refine br_dec (fun h2 => ?_) (fun h2 => ?_)
    · have fails : elemEq k3 (xs.getD i (edflt k3)) (mk3 (n + ((3 * i : Nat) : Int))) = false → (-1 : Int) = hdR (hdB k3 mk3 3 n xs) (n + ((3 * xs.length : Nat) : Int)) := by
        intro hf
        rw [show hdB k3 mk3 3 n xs = false from allB_f (i := i) (by omega) hf]
        rfl
      refine br_yes ⟨by omega, by omega⟩ (br_bne (fun q0 => ?_) (fun q0 => br_yes ⟨by omega, by omega⟩ (br_bne (fun q1 => ?_) (fun q1 => br_yes ⟨by omega, by omega⟩ (br_bne (fun q2 => ?_) (fun q2 => ?_))))))
      · show _ = _
        rw [fails (by rw [he, q0] <;> rfl)]
      · show _ = _
        rw [fails (by rw [he, q0, q1] <;> rfl)]
      · show _ = _
        rw [fails (by rw [he, q0, q1, q2] <;> rfl)]
      · refine next (by omega) _ ⟨fun j hj => ?_, by omega⟩
        by_cases e : j < i
        · exact hall j e
        · have : j = i := by omega
          rw [this, he, q0, q1, q2]
          rfl
    · have hi' : i = xs.length := by omega
      show _ = _
      rw [show hdB k3 mk3 3 n xs = true from allB_t fun j hj => hall j (by omega), hm, hi']
      rfl
  · exact h.elim
noncomputable def G17c : Gk := gk [(66, g66c), (67, g67), (68, g68), (18, g18)]
theorem hg17c : HG Tryz.prog G17c := (hg_cons h66c (hg_cons h67 (hg_cons h68 (hg_cons h18 hg_nil))))
theorem e17c (L : Lp) (R : Option Res → Prop) (x : Int) (s : List (Elem kc)) (d p : List (Elem k3)) (b : Bool) (f : List (Elem ki)) (n m : Int) : (bodyP Eg G17c L Tryz.f17 [.agg [.val (.int .i64 x), .ows 0, .ows 1, .ows 2, .val (.bool b), .ows 3, .val (.int .i64 n)], .val (.int .i64 m)] [.row kc s, .row k3 d, .row k3 p, .row ki f] R) = (
    br (inM m s.length) (br (inM (m + (↑(7 * s.length) : Int)) d.length) (br (inM (m + (↑(7 * s.length) : Int) + (↑(3 * d.length) : Int)) p.length) (br (inM (m + (↑(7 * s.length) : Int) + (↑(3 * d.length) : Int) + (↑(3 * p.length) : Int)) f.length) (R (some { av := vI (m + (↑(7 * s.length) : Int) + (↑(3 * d.length) : Int) + (↑(3 * p.length) : Int) + (↑(1 * f.length) : Int)), obs := [AO.row kc (midC s m s.length 0), AO.row k3 (mkS mk3 3 (m + (↑(7 * s.length) : Int)) d.length), AO.row k3 (mkS mk3 3 (m + (↑(7 * s.length) : Int) + (↑(3 * d.length) : Int)) p.length), AO.row ki (mkS mkI 1 (m + (↑(7 * s.length) : Int) + (↑(3 * d.length) : Int) + (↑(3 * p.length) : Int)) f.length)], outs := [some 0, some 1, some 2, some 3] })) False) False) False) False) := by kernel_rfl
theorem h17c : G1Ok Tryz.prog 17 g17c := by
  intro args obs k h
  unfold g17c at h
  split at h
  · rename_i k x b n m cx s0 d p f
    split at h
    rotate_left
    · exact h.elim
    rename_i s hx
    cases castE_inv hx
    obtain ⟨hp, h⟩ := br_and h
    unfold inC4 at hp
    simp only [Bool.and_eq_true] at hp
    obtain ⟨h1, h2, h3, h4⟩ := hp
    refine ⟨_, ctr_fn okg hg17c Tryz.func17 (by kernel_rfl) (by kernel_rfl) (by kernel_rfl) fun C => ?_, h⟩
    show bodyP Eg G17c _ Tryz.f17 [.agg [.val (.int .i64 x), .ows 0, .ows 1, .ows 2, .val (.bool b), .ows 3, .val (.int .i64 n)], .val (.int .i64 m)] [.row kc s, .row k3 d, .row k3 p, .row ki f] _
    rw [e17c]
    exact br_t h1 (br_t h2 (br_t h3 (br_t h4 rfl)))
  · exact h.elim
def hdCo (c : Co) (m : Int) : Bool := hdC m c.2.1 && (hdB k3 mk3 3 (m + ((7 * c.2.1.length : Nat) : Int)) c.2.2.1 && (hdB k3 mk3 3 (m + ((7 * c.2.1.length : Nat) : Int) + ((3 * c.2.2.1.length : Nat) : Int)) c.2.2.2.1 && hdB ki mkI 1 (m + ((7 * c.2.1.length : Nat) : Int) + ((3 * c.2.2.1.length : Nat) : Int) + ((3 * c.2.2.2.1.length : Nat) : Int)) c.2.2.2.2.2.1))
def g37 : G1
  | [.agg us, .val (.int .i64 m)], [], k => match coreOf us with
    | some c => br (inC4 m c.2.1.length c.2.2.1.length c.2.2.2.1.length c.2.2.2.2.2.1.length && hdCo c m) (k ⟨.val (.int .i64 (mkCo c m)), [], []⟩) False
    | none => False
  | _, _, _ => False
noncomputable def G37 : Gk := gk [(101, g101), (102, g102), (103, g103), (19, g19)]
theorem hg37 : HG Tryz.prog G37 := (hg_cons h101 (hg_cons h102 (hg_cons h103 (hg_cons h19 hg_nil))))
theorem e37 (L : Lp) (R : Option Res → Prop) (x : Int) (s : List (Elem kc)) (d p : List (Elem k3)) (b : Bool) (f : List (Elem ki)) (n m : Int) : (bodyP Eg G37 L Tryz.f37 [coreAV x s d p b f n, .val (.int .i64 m)] [] R) = (
    br (inM m s.length && hdC m s) (br (decide (m + (↑(7 * s.length) : Int) < 0)) (R (some { av := vI (-1), obs := [], outs := [] })) (br (inM (m + (↑(7 * s.length) : Int)) d.length) (br (decide (hdR (hdB k3 mk3 3 (m + (↑(7 * s.length) : Int)) d) (m + (↑(7 * s.length) : Int) + (↑(3 * d.length) : Int)) < 0)) (R (some { av := vI (-1), obs := [], outs := [] })) (br (inM (hdR (hdB k3 mk3 3 (m + (↑(7 * s.length) : Int)) d) (m + (↑(7 * s.length) : Int) + (↑(3 * d.length) : Int))) p.length) (br (decide (hdR (hdB k3 mk3 3 (hdR (hdB k3 mk3 3 (m + (↑(7 * s.length) : Int)) d) (m + (↑(7 * s.length) : Int) + (↑(3 * d.length) : Int))) p) (hdR (hdB k3 mk3 3 (m + (↑(7 * s.length) : Int)) d) (m + (↑(7 * s.length) : Int) + (↑(3 * d.length) : Int)) + (↑(3 * p.length) : Int)) < 0)) (R (some { av := vI (-1), obs := [], outs := [] })) (br (inM (hdR (hdB k3 mk3 3 (hdR (hdB k3 mk3 3 (m + (↑(7 * s.length) : Int)) d) (m + (↑(7 * s.length) : Int) + (↑(3 * d.length) : Int))) p) (hdR (hdB k3 mk3 3 (m + (↑(7 * s.length) : Int)) d) (m + (↑(7 * s.length) : Int) + (↑(3 * d.length) : Int)) + (↑(3 * p.length) : Int))) f.length) (br (decide (hdR (hdB ki mkI 1 (hdR (hdB k3 mk3 3 (hdR (hdB k3 mk3 3 (m + (↑(7 * s.length) : Int)) d) (m + (↑(7 * s.length) : Int) + (↑(3 * d.length) : Int))) p) (hdR (hdB k3 mk3 3 (m + (↑(7 * s.length) : Int)) d) (m + (↑(7 * s.length) : Int) + (↑(3 * d.length) : Int)) + (↑(3 * p.length) : Int))) f) (hdR (hdB k3 mk3 3 (hdR (hdB k3 mk3 3 (m + (↑(7 * s.length) : Int)) d) (m + (↑(7 * s.length) : Int) + (↑(3 * d.length) : Int))) p) (hdR (hdB k3 mk3 3 (m + (↑(7 * s.length) : Int)) d) (m + (↑(7 * s.length) : Int) + (↑(3 * d.length) : Int)) + (↑(3 * p.length) : Int)) + (↑(1 * f.length) : Int)) < 0)) (R (some { av := vI (-1), obs := [], outs := [] })) (R (some { av := vI (hdR (hdB ki mkI 1 (hdR (hdB k3 mk3 3 (hdR (hdB k3 mk3 3 (m + (↑(7 * s.length) : Int)) d) (m + (↑(7 * s.length) : Int) + (↑(3 * d.length) : Int))) p) (hdR (hdB k3 mk3 3 (m + (↑(7 * s.length) : Int)) d) (m + (↑(7 * s.length) : Int) + (↑(3 * d.length) : Int)) + (↑(3 * p.length) : Int))) f) (hdR (hdB k3 mk3 3 (hdR (hdB k3 mk3 3 (m + (↑(7 * s.length) : Int)) d) (m + (↑(7 * s.length) : Int) + (↑(3 * d.length) : Int))) p) (hdR (hdB k3 mk3 3 (m + (↑(7 * s.length) : Int)) d) (m + (↑(7 * s.length) : Int) + (↑(3 * d.length) : Int)) + (↑(3 * p.length) : Int)) + (↑(1 * f.length) : Int))), obs := [], outs := [] }))) False)) False)) False)) False) := by kernel_rfl
theorem h37 : G1Ok Tryz.prog 37 g37 := by
  intro args obs k h
  unfold g37 at h
  split at h
  · rename_i k us m
    split at h
    rotate_left
    · exact h.elim
    rename_i c hc
    obtain rfl := coreOf_inv hc
    obtain ⟨x, s, d, p, b, f, n⟩ := c
    obtain ⟨hp, hh, h⟩ := brb2 h
    unfold inC4 at hp
    simp only [Bool.and_eq_true] at hp
    obtain ⟨h1, h2, h3, h4⟩ := hp
    unfold hdCo at hh
    simp only [Bool.and_eq_true] at hh
    obtain ⟨q1, q2, q3, q4⟩ := hh
    have r : ∀ z, hdR true z = z := fun _ => rfl
    refine ⟨_, ctr_fn okg hg37 Tryz.func37 (by kernel_rfl) (by kernel_rfl) (by kernel_rfl) fun C => ?_, h⟩
    show bodyP Eg G37 _ Tryz.f37 [coreAV x s d p b f n, .val (.int .i64 m)] [] _
    have n0 := inM_ge h1
    have n1 := inM_ge h2
    have n2 := inM_ge h3
    have n3 := inM_ge h4
    rw [e37]
    simp only [q2, q3, q4, r]
    exact br_t (by rw [h1, q1]; rfl) (br_no (by omega) (br_t h2 (br_no (by omega) (br_t h3 (br_no (by omega) (br_t h4 (br_no (by omega) rfl)))))))
  · exact h.elim
end Go.Proofs.YtkjnijddbiconaaGreatDoor.Ev
