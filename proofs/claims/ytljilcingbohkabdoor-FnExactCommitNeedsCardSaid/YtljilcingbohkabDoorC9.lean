/- The law of CoreOk. -/
import Derived.Test.YtljilcingbohkabDoorC8
namespace Go.Proofs.YtljilcingbohkabDoor.Ev
open Go
set_option linter.unusedVariables false
set_option linter.unusedSimpArgs false
set_option maxRecDepth 100000
set_option maxHeartbeats 1000000
def g68 : G1
  | [.agg us], [], k => match elemOf kc us with
    | some e => br (smC e) (k ⟨.val (.bool (!setV e)), [], []⟩) False
    | none => False
  | _, _, _ => False
def smCs (s : List (Elem kc)) : Bool := decide (s.length ≤ 1048576) && s.all smC
def g121 : G1
  | [.rsl cx xs0, .fn 68 []], [], k => match castE kc cx xs0 with
    | some xs => br (smCs xs) (k ⟨.val (.int .i64 (fIx xs.length fun i => !setV (atC xs i))), [], []⟩) False
    | none => False
  | _, _, _ => False
def g67 : G1
  | [.rsl cx xs0, .fn 68 []], [], k => match castE kc cx xs0 with
    | some xs => br (smCs xs) (k ⟨.val (.bool (anyB xs.length fun i => !setV (atC xs i))), [], []⟩) False
    | none => False
  | _, _, _ => False
def coreOk (x : Int) (s : List (Elem kc)) (d p : List (Elem k3)) (f : List (Elem ki)) (n : Int) : Bool :=
  (decide (0 ≤ x) && decide (x ≤ 1000000)) && (ddtOk d && (decide ((p.length : Int) ≤ 8) && (plcs f && ((decide (0 ≤ n) && decide (n ≤ 8)) && ((allB s.length fun i => setV (atC s i)) && ((allB p.length fun i => rOk (atP p i)) && (bookOk (bkS s) && (cntS d s && (ptsOf s).all (sumK d)))))))))
def smB' (c : Co) : Bool := smCo c && smCs c.2.1
def g13 : G1
  | [.agg us], [], k => match coreOf us with
    | some c => br (smB' c) (k ⟨.val (.bool (coreOk c.1 c.2.1 c.2.2.1 c.2.2.2.1 c.2.2.2.2.2.1 c.2.2.2.2.2.2)), [], []⟩) False
    | none => False
  | _, _, _ => False
theorem cok_x {x : Int} {s : List (Elem kc)} {d p : List (Elem k3)} {f : List (Elem ki)} {n : Int} (h : (decide (0 ≤ x) && decide (x ≤ 1000000)) = false) : coreOk x s d p f n = false := by
  unfold coreOk
  rw [h]
  simp only [Bool.and_false, Bool.false_and]
theorem cok_d {x : Int} {s : List (Elem kc)} {d p : List (Elem k3)} {f : List (Elem ki)} {n : Int} (h : ddtOk d = false) : coreOk x s d p f n = false := by
  unfold coreOk
  rw [h]
  simp only [Bool.and_false, Bool.false_and]
theorem cok_p {x : Int} {s : List (Elem kc)} {d p : List (Elem k3)} {f : List (Elem ki)} {n : Int} (h : decide ((p.length : Int) ≤ 8) = false) : coreOk x s d p f n = false := by
  unfold coreOk
  rw [h]
  simp only [Bool.and_false, Bool.false_and]
theorem cok_f {x : Int} {s : List (Elem kc)} {d p : List (Elem k3)} {f : List (Elem ki)} {n : Int} (h : plcs f = false) : coreOk x s d p f n = false := by
  unfold coreOk
  rw [h]
  simp only [Bool.and_false, Bool.false_and]
theorem cok_n {x : Int} {s : List (Elem kc)} {d p : List (Elem k3)} {f : List (Elem ki)} {n : Int} (h : (decide (0 ≤ n) && decide (n ≤ 8)) = false) : coreOk x s d p f n = false := by
  unfold coreOk
  rw [h]
  simp only [Bool.and_false, Bool.false_and]
theorem cok_s {x : Int} {s : List (Elem kc)} {d p : List (Elem k3)} {f : List (Elem ki)} {n : Int} (h : (allB s.length fun i => setV (atC s i)) = false) : coreOk x s d p f n = false := by
  unfold coreOk
  rw [h]
  simp only [Bool.and_false, Bool.false_and]
theorem cok_r {x : Int} {s : List (Elem kc)} {d p : List (Elem k3)} {f : List (Elem ki)} {n : Int} (h : (allB p.length fun i => rOk (atP p i)) = false) : coreOk x s d p f n = false := by
  unfold coreOk
  rw [h]
  simp only [Bool.and_false, Bool.false_and]
theorem cok_b {x : Int} {s : List (Elem kc)} {d p : List (Elem k3)} {f : List (Elem ki)} {n : Int} (h : bookOk (bkS s) = false) : coreOk x s d p f n = false := by
  unfold coreOk
  rw [h]
  simp only [Bool.and_false, Bool.false_and]
theorem cok_c {x : Int} {s : List (Elem kc)} {d p : List (Elem k3)} {f : List (Elem ki)} {n : Int} (h : cntS d s = false) : coreOk x s d p f n = false := by
  unfold coreOk
  rw [h]
  simp only [Bool.and_false, Bool.false_and]
theorem cok_u {x : Int} {s : List (Elem kc)} {d p : List (Elem k3)} {f : List (Elem ki)} {n : Int} (h : (ptsOf s).all (sumK d) = false) : coreOk x s d p f n = false := by
  unfold coreOk
  rw [h]
  simp only [Bool.and_false, Bool.false_and]
theorem cok_t {x : Int} {s : List (Elem kc)} {d p : List (Elem k3)} {f : List (Elem ki)} {n : Int} (h1 : (decide (0 ≤ x) && decide (x ≤ 1000000)) = true) (h2 : ddtOk d = true) (h3 : decide ((p.length : Int) ≤ 8) = true) (h4 : plcs f = true) (h5 : (decide (0 ≤ n) && decide (n ≤ 8)) = true) (h6 : (allB s.length fun i => setV (atC s i)) = true) (h7 : (allB p.length fun i => rOk (atP p i)) = true) (h8 : bookOk (bkS s) = true) : coreOk x s d p f n = (cntS d s && (ptsOf s).all (sumK d)) := by
  unfold coreOk
  rw [h1, h2, h3, h4, h5, h6, h7, h8]
  simp only [Bool.true_and]
theorem smCs_len {s : List (Elem kc)} (h : smCs s = true) : s.length ≤ 1048576 := by
  unfold smCs at h
  rw [Bool.and_eq_true] at h
  exact of_decide_eq_true h.1
theorem smCs_at {s : List (Elem kc)} (h : smCs s = true) {i : Nat} (hi : i < s.length) : smC (atC s i) = true := by
  unfold smCs at h
  rw [Bool.and_eq_true] at h
  exact all_at h.2 (edflt kc) hi
theorem smB_bk {s : List (Elem kc)} (h : smCs s = true) : smB (bkS s) = true := by
  have hl := smCs_len h
  unfold smCs at h
  rw [Bool.and_eq_true, List.all_eq_true] at h
  unfold smB bkS
  rw [Bool.and_eq_true, decide_eq_true_eq, List.length_map, List.all_eq_true]
  refine ⟨hl, fun e he => ?_⟩
  obtain ⟨c, hc, rfl⟩ := List.mem_map.1 he
  have := h.2 c hc
  unfold smC at this
  rw [Bool.and_eq_true] at this
  exact this.1
theorem rng_l {x a b : Int} (h : x < a) : (decide (a ≤ x) && decide (x ≤ b)) = false := by rw [decide_eq_false (show ¬ a ≤ x by omega)]; rfl
theorem rng_h {x a b : Int} (h : x > b) : (decide (a ≤ x) && decide (x ≤ b)) = false := by rw [decide_eq_false (show ¬ x ≤ b by omega), Bool.and_false]
theorem rng_t {x a b : Int} (h : ¬ x < a) (h2 : ¬ x > b) : (decide (a ≤ x) && decide (x ≤ b)) = true := by rw [decide_eq_true (show a ≤ x by omega), decide_eq_true (show x ≤ b by omega)]; rfl
theorem rng_f {x a b : Int} (h : (decide (a ≤ x) && decide (x ≤ b)) = false) : x < a ∨ x > b := by
  rw [Bool.and_eq_false_iff, decide_eq_false_iff_not, decide_eq_false_iff_not] at h
  omega
theorem rng_i {x a b : Int} (h : (decide (a ≤ x) && decide (x ≤ b)) = true) : a ≤ x ∧ x ≤ b := by
  rw [Bool.and_eq_true, decide_eq_true_eq, decide_eq_true_eq] at h
  exact h
noncomputable def E68 : Env := Ef.of Tryd.f68
noncomputable def G68 : Gk := gk [(69, g52)]
noncomputable def lp68 (n : Nat) : Code := (loopOf n (codeOf Tryd.f68)).getD .skip
noncomputable def ct68 (L : Lp) (R : Option Res → Prop) (n : Nat) : Kt := contOf E68 G68 L n (codeOf Tryd.f68) (endK E68 Tryd.f68.results.toList R)
noncomputable def rk68 (L : Lp) (R : Option Res → Prop) (n : Nat) (N : St → Prop) : Kt := rk (jof E68 (lp68 n)) N (ct68 L R n)
noncomputable def rkn68 (L : Lp) (R : Option Res → Prop) (n : Nat) (N : St → Prop) (m : Nat) (N2 : St → Prop) : Kt := rk (jof E68 (lp68 m)) N2 (contOf E68 G68 L m (lp68 n) (rk68 L R n N))
noncomputable def LOOPN68 (L : Lp) (R : Option Res → Prop) (n : Nat) (N : St → Prop) (m : Nat) (st : St) : Prop := L (lp68 m) st (contOf E68 G68 L m (lp68 n) (rk68 L R n N))
noncomputable def LOOP68 (L : Lp) (R : Option Res → Prop) (n : Nat) (st : St) : Prop := L (lp68 n) st (ct68 L R n)
theorem hg68 : HG Tryd.prog G68 := (hg_cons h69 hg_nil)
theorem okf68 : Ok Tryd.prog E68 := okf.of Tryd.f68
theorem e68 (L : Lp) (R : Option Res → Prop) (e : Elem kc) : (bodyP Ef G68 L Tryd.f68 [.agg (setK e)] [] R) = (
    br (smC e) (R (some { av := vB !setV e, obs := [], outs := [] })) False) := by kernel_rfl
theorem h68 : G1Ok Tryd.prog 68 g68 := by
  intro args obs k h
  unfold g68 at h
  split at h
  · rename_i k us
    split at h
    rotate_left
    · exact h.elim
    rename_i e he
    obtain rfl := elemOf_inv he
    obtain ⟨hs, h⟩ := br_and h
    refine ⟨_, ctr_fn okf hg68 Tryd.func68 (by kernel_rfl) (by kernel_rfl) (by kernel_rfl) fun C => ?_, h⟩
    show bodyP Ef G68 _ Tryd.f68 [.agg (setK e)] [] _
    rw [e68]
    exact br_t hs rfl
  · exact h.elim
noncomputable def E121 : Env := Ef.of Tryd.f121
noncomputable def G121 : Gk := gk [(68, g68)]
noncomputable def lp121 (n : Nat) : Code := (loopOf n (codeOf Tryd.f121)).getD .skip
noncomputable def ct121 (L : Lp) (R : Option Res → Prop) (n : Nat) : Kt := contOf E121 G121 L n (codeOf Tryd.f121) (endK E121 Tryd.f121.results.toList R)
noncomputable def rk121 (L : Lp) (R : Option Res → Prop) (n : Nat) (N : St → Prop) : Kt := rk (jof E121 (lp121 n)) N (ct121 L R n)
noncomputable def rkn121 (L : Lp) (R : Option Res → Prop) (n : Nat) (N : St → Prop) (m : Nat) (N2 : St → Prop) : Kt := rk (jof E121 (lp121 m)) N2 (contOf E121 G121 L m (lp121 n) (rk121 L R n N))
noncomputable def LOOPN121 (L : Lp) (R : Option Res → Prop) (n : Nat) (N : St → Prop) (m : Nat) (st : St) : Prop := L (lp121 m) st (contOf E121 G121 L m (lp121 n) (rk121 L R n N))
noncomputable def LOOP121 (L : Lp) (R : Option Res → Prop) (n : Nat) (st : St) : Prop := L (lp121 n) st (ct121 L R n)
theorem hg121 : HG Tryd.prog G121 := (hg_cons h68 hg_nil)
theorem okf121 : Ok Tryd.prog E121 := okf.of Tryd.f121
theorem e121 (L : Lp) (R : Option Res → Prop) (xs : List (Elem kc)) : (bodyP Ef G121 L Tryd.f121 [.rsl kc xs, .fn 68 []] [] R) = (
    LOOP121 L R 2 { tm := [AV.rsl kc xs, AV.fn 68 [], vJ, vJ, vJ, vJ, vJ, vI (↑xs.length : Int), vI 0, vJ, vJ, vJ, vJ, vJ, vJ, vJ, vJ, vJ, vJ], ob := [], nx := 1000000, ps := [] }) := by kernel_rfl
def st121 (xs : List (Elem kc)) (i : Int) : St :=  ⟨[AV.rsl kc xs, AV.fn 68 [], vJ, vJ, vJ, vJ, vJ, vI (↑xs.length : Int), .val (.int .i64 i), vJ, vJ, vJ, vJ, vJ, vJ, vJ, vJ, vJ, vJ], [], 1000000, []⟩
theorem b121 (L : Lp) (R : Option Res → Prop) (N : St → Prop) (xs : List (Elem kc)) (i : Int) : (evP E121 G121 L (lp121 2) (st121 xs i) (rk121 L R 2 N)) = (
    br (decide (i < (↑xs.length : Int))) (br (decide (0 ≤ i ∧ i < (↑xs.length : Int))) (br (smC (xs.getD i.toNat (edflt kc))) (br (!setV (xs.getD i.toNat (edflt kc))) (R (some { av := vI i, obs := [], outs := [] })) (N { tm := [AV.rsl kc xs, AV.fn 68 [], vJ, vJ, vJ, vJ, vJ, vI (↑xs.length : Int), vI (IntKind.i64.wrap (i + 1)), vJ, vJ, vJ, vJ, vJ, vJ, vJ, vJ, vJ, vJ], ob := [], nx := 1000000, ps := [] })) False) False) (R (some { av := vI (-1), obs := [], outs := [] }))) := by kernel_rfl
theorem h121 : G1Ok Tryd.prog 121 g121 := by
  intro args obs k h
  unfold g121 at h
  split at h
  · rename_i k cx xs0
    split at h
    rotate_left
    · exact h.elim
    rename_i xs hx
    cases castE_inv hx
    obtain ⟨hs, h⟩ := br_and h
    have hl := smCs_len hs
    refine ⟨_, ctr_fn okf hg121 Tryd.func121 (by kernel_rfl) (by kernel_rfl) (by kernel_rfl) fun C => ?_, h⟩
    rw [e121]
    refine loopFind okf121 hg121 (fun i => st121 xs i) xs.length (fun i => !setV (atC xs i)) (by omega) (fun N i hi hw next found none => ?_)
    show evP E121 G121 _ (lp121 2) (st121 xs i) (rk121 _ _ 2 _)
    rw [b121, hw, Int.toNat_natCast]
    refine br_dec (fun h2 => br_yes ⟨by omega, h2⟩ (br_t (smCs_at hs (by omega)) (br_intro (fun h3 => ?_) (fun h3 => ?_)))) (fun h2 => ?_)
    · show _ = _
      rw [found (by omega) h3]
    · exact next (by omega) h3
    · show _ = _
      rw [none (by omega)]
  · exact h.elim
noncomputable def E67 : Env := Ef.of Tryd.f67
noncomputable def G67 : Gk := gk [(121, g121)]
noncomputable def lp67 (n : Nat) : Code := (loopOf n (codeOf Tryd.f67)).getD .skip
noncomputable def ct67 (L : Lp) (R : Option Res → Prop) (n : Nat) : Kt := contOf E67 G67 L n (codeOf Tryd.f67) (endK E67 Tryd.f67.results.toList R)
noncomputable def rk67 (L : Lp) (R : Option Res → Prop) (n : Nat) (N : St → Prop) : Kt := rk (jof E67 (lp67 n)) N (ct67 L R n)
noncomputable def rkn67 (L : Lp) (R : Option Res → Prop) (n : Nat) (N : St → Prop) (m : Nat) (N2 : St → Prop) : Kt := rk (jof E67 (lp67 m)) N2 (contOf E67 G67 L m (lp67 n) (rk67 L R n N))
noncomputable def LOOPN67 (L : Lp) (R : Option Res → Prop) (n : Nat) (N : St → Prop) (m : Nat) (st : St) : Prop := L (lp67 m) st (contOf E67 G67 L m (lp67 n) (rk67 L R n N))
noncomputable def LOOP67 (L : Lp) (R : Option Res → Prop) (n : Nat) (st : St) : Prop := L (lp67 n) st (ct67 L R n)
theorem hg67 : HG Tryd.prog G67 := (hg_cons h121 hg_nil)
theorem okf67 : Ok Tryd.prog E67 := okf.of Tryd.f67
theorem e67 (L : Lp) (R : Option Res → Prop) (xs : List (Elem kc)) : (bodyP Ef G67 L Tryd.f67 [.rsl kc xs, .fn 68 []] [] R) = (
    br (smCs xs) (R (some { av := vB (decide ((fIx xs.length fun i => !setV (atC xs i)) ≥ 0)), obs := [], outs := [] })) False) := by kernel_rfl
theorem h67 : G1Ok Tryd.prog 67 g67 := by
  intro args obs k h
  unfold g67 at h
  split at h
  · rename_i k cx xs0
    split at h
    rotate_left
    · exact h.elim
    rename_i xs hx
    cases castE_inv hx
    obtain ⟨hs, h⟩ := br_and h
    refine ⟨_, ctr_fn okf hg67 Tryd.func67 (by kernel_rfl) (by kernel_rfl) (by kernel_rfl) fun C => ?_, h⟩
    rw [e67]
    refine br_t hs ?_
    show _ = _
    rw [fIx_ge]
  · exact h.elim
noncomputable def E13 : Env := Ef.of Tryd.f13
noncomputable def G13 : Gk := gk [(50, g63), (51, g51), (52, g52), (53, g120), (54, g54), (55, g55), (56, g56), (57, g57)]
noncomputable def lp13 (n : Nat) : Code := (loopOf n (codeOf Tryd.f13)).getD .skip
noncomputable def ct13 (L : Lp) (R : Option Res → Prop) (n : Nat) : Kt := contOf E13 G13 L n (codeOf Tryd.f13) (endK E13 Tryd.f13.results.toList R)
noncomputable def rk13 (L : Lp) (R : Option Res → Prop) (n : Nat) (N : St → Prop) : Kt := rk (jof E13 (lp13 n)) N (ct13 L R n)
noncomputable def rkn13 (L : Lp) (R : Option Res → Prop) (n : Nat) (N : St → Prop) (m : Nat) (N2 : St → Prop) : Kt := rk (jof E13 (lp13 m)) N2 (contOf E13 G13 L m (lp13 n) (rk13 L R n N))
noncomputable def LOOPN13 (L : Lp) (R : Option Res → Prop) (n : Nat) (N : St → Prop) (m : Nat) (st : St) : Prop := L (lp13 m) st (contOf E13 G13 L m (lp13 n) (rk13 L R n N))
noncomputable def LOOP13 (L : Lp) (R : Option Res → Prop) (n : Nat) (st : St) : Prop := L (lp13 n) st (ct13 L R n)
theorem hg13 : HG Tryd.prog G13 := (hg_cons h50 (hg_cons h51 (hg_cons h52 (hg_cons h53 (hg_cons h54 (hg_cons h55 (hg_cons h56 (hg_cons h57 hg_nil))))))))
theorem okf13 : Ok Tryd.prog E13 := okf.of Tryd.f13
theorem e13 (L : Lp) (R : Option Res → Prop) (x : Int) (s : List (Elem kc)) (d p : List (Elem k3)) (b : Bool) (f : List (Elem ki)) (n : Int) : (bodyP Ef G13 L Tryd.f13 [coreAV x s d p b f n] [] R) = (
    br (decide (x < 0)) (R (some { av := vB false, obs := [], outs := [] })) (br (decide (x > 1000000)) (R (some { av := vB false, obs := [], outs := [] })) (br (decide (d.length ≤ 1048576)) (br (!ddtOk d) (R (some { av := vB false, obs := [], outs := [] })) (br (decide ((↑p.length : Int) > 8)) (R (some { av := vB false, obs := [], outs := [] })) (br (decide (f.length ≤ 1048576)) (br (!plcs f) (R (some { av := vB false, obs := [], outs := [] })) (br (decide (n < 0)) (R (some { av := vB false, obs := [], outs := [] })) (br (decide (n > 8)) (R (some { av := vB false, obs := [], outs := [] })) (LOOP13 L R 4 { tm := [vJ, AV.ptr 0 0, vJ, vI 0, vJ, vJ, vJ, vJ, vJ, vJ, vJ, vJ, vJ, vJ, vJ, vJ, vJ, vJ, vJ, vJ, vJ, vJ, vJ, vJ, vJ, vJ, vJ, vJ, vJ, vJ, vJ, vJ, vJ, vJ, vJ, vJ, vJ, vJ, vJ, vJ, vJ, vJ, vJ, vJ, vJ, vJ, vJ, vJ, vJ, vJ, vJ, vJ, vJ, vJ, vJ, vJ, vJ, vJ, vJ, vJ, vJ, vJ, vJ, vJ, vJ, vJ, vJ, vJ, vJ, vJ, vJ, vJ, vJ, vJ, vJ, vJ, vJ, vJ, vJ, vJ, vJ, vJ, vJ, vJ, vJ, vJ, vJ, vJ, vJ], ob := [(0, AO.box [vI x, AV.rsl kc s, AV.rsl k3 d, AV.rsl k3 p, vB b, AV.rsl ki f, vI n])], nx := 1000000, ps := [] })))) False))) False))) := by kernel_rfl
def st13 (x : Int) (s : List (Elem kc)) (d p : List (Elem k3)) (b : Bool) (f : List (Elem ki)) (n : Int) (i : Int) : St :=  ⟨[vJ, AV.ptr 0 0, vJ, .val (.int .i64 i), vJ, vJ, vJ, vJ, vJ, vJ, vJ, vJ, vJ, vJ, vJ, vJ, vJ, vJ, vJ, vJ, vJ, vJ, vJ, vJ, vJ, vJ, vJ, vJ, vJ, vJ, vJ, vJ, vJ, vJ, vJ, vJ, vJ, vJ, vJ, vJ, vJ, vJ, vJ, vJ, vJ, vJ, vJ, vJ, vJ, vJ, vJ, vJ, vJ, vJ, vJ, vJ, vJ, vJ, vJ, vJ, vJ, vJ, vJ, vJ, vJ, vJ, vJ, vJ, vJ, vJ, vJ, vJ, vJ, vJ, vJ, vJ, vJ, vJ, vJ, vJ, vJ, vJ, vJ, vJ, vJ, vJ, vJ, vJ, vJ], [(0, AO.box [vI x, AV.rsl kc s, AV.rsl k3 d, AV.rsl k3 p, vB b, AV.rsl ki f, vI n])], 1000000, []⟩
theorem b13 (L : Lp) (R : Option Res → Prop) (N : St → Prop) (x : Int) (s : List (Elem kc)) (d p : List (Elem k3)) (b : Bool) (f : List (Elem ki)) (n : Int) (i : Int) : (evP E13 G13 L (lp13 4) (st13 x s d p b f n i) (rk13 L R 4 N)) = (
    br (decide (i < (↑s.length : Int))) (br (decide (0 ≤ i ∧ i < (↑s.length : Int))) (br (smC (s.getD i.toNat (edflt kc))) (br (!setV (s.getD i.toNat (edflt kc))) (R (some { av := vB false, obs := [], outs := [] })) (N { tm := [vJ, AV.ptr 0 0, vJ, vI (IntKind.i64.wrap (i + 1)), vJ, vJ, vJ, vJ, vJ, vJ, vJ, vJ, vJ, vJ, vJ, vJ, vJ, vJ, vJ, vJ, vJ, vJ, vJ, vJ, vJ, vJ, vJ, vJ, vJ, vJ, vJ, vJ, vJ, vJ, vJ, vJ, vJ, vJ, vJ, vJ, vJ, vJ, vJ, vJ, vJ, vJ, vJ, vJ, vJ, vJ, vJ, vJ, vJ, vJ, vJ, vJ, vJ, vJ, vJ, vJ, vJ, vJ, vJ, vJ, vJ, vJ, vJ, vJ, vJ, vJ, vJ, vJ, vJ, vJ, vJ, vJ, vJ, vJ, vJ, vJ, vJ, vJ, vJ, vJ, vJ, vJ, vJ, vJ, vJ], ob := [(0, AO.box [vI x, AV.rsl kc s, AV.rsl k3 d, AV.rsl k3 p, vB b, AV.rsl ki f, vI n])], nx := 1000000, ps := [] })) False) False) (LOOP13 L R 9 { tm := [vJ, AV.ptr 0 0, vJ, vJ, vI 0, vJ, vJ, vJ, vJ, vJ, vJ, vJ, vJ, vJ, vJ, vJ, vJ, vJ, vJ, vJ, vJ, vJ, vJ, vJ, vJ, vJ, vJ, vJ, vJ, vJ, vJ, vJ, vJ, vJ, vJ, vJ, vJ, vJ, vJ, vJ, vJ, vJ, vJ, vJ, vJ, vJ, vJ, vJ, vJ, vJ, vJ, vJ, vJ, vJ, vJ, vJ, vJ, vJ, vJ, vJ, vJ, vJ, vJ, vJ, vJ, vJ, vJ, vJ, vJ, vJ, vJ, vJ, vJ, vJ, vJ, vJ, vJ, vJ, vJ, vJ, vJ, vJ, vJ, vJ, vJ, vJ, vJ, vJ, vJ], ob := [(0, AO.box [vI x, AV.rsl kc s, AV.rsl k3 d, AV.rsl k3 p, vB b, AV.rsl ki f, vI n])], nx := 1000000, ps := [] })) := by kernel_rfl
def sp13 (x : Int) (s : List (Elem kc)) (d p : List (Elem k3)) (b : Bool) (f : List (Elem ki)) (n : Int) (i : Int) : St :=  ⟨[vJ, AV.ptr 0 0, vJ, vJ, .val (.int .i64 i), vJ, vJ, vJ, vJ, vJ, vJ, vJ, vJ, vJ, vJ, vJ, vJ, vJ, vJ, vJ, vJ, vJ, vJ, vJ, vJ, vJ, vJ, vJ, vJ, vJ, vJ, vJ, vJ, vJ, vJ, vJ, vJ, vJ, vJ, vJ, vJ, vJ, vJ, vJ, vJ, vJ, vJ, vJ, vJ, vJ, vJ, vJ, vJ, vJ, vJ, vJ, vJ, vJ, vJ, vJ, vJ, vJ, vJ, vJ, vJ, vJ, vJ, vJ, vJ, vJ, vJ, vJ, vJ, vJ, vJ, vJ, vJ, vJ, vJ, vJ, vJ, vJ, vJ, vJ, vJ, vJ, vJ, vJ, vJ], [(0, AO.box [vI x, AV.rsl kc s, AV.rsl k3 d, AV.rsl k3 p, vB b, AV.rsl ki f, vI n])], 1000000, []⟩
theorem bp13 (L : Lp) (R : Option Res → Prop) (N : St → Prop) (x : Int) (s : List (Elem kc)) (d p : List (Elem k3)) (b : Bool) (f : List (Elem ki)) (n : Int) (i : Int) : (evP E13 G13 L (lp13 9) (sp13 x s d p b f n i) (rk13 L R 9 N)) = (
    br (decide (i < (↑p.length : Int))) (br (decide (0 ≤ i ∧ i < (↑p.length : Int))) (br (!ptrOk (p.getD i.toNat (edflt k3)).fst (p.getD i.toNat (edflt k3)).snd.fst (p.getD i.toNat (edflt k3)).snd.snd.fst) (R (some { av := vB false, obs := [], outs := [] })) (br (decide (0 ≤ i ∧ i < (↑p.length : Int))) (br ((p.getD i.toNat (edflt k3)).fst == 0) (R (some { av := vB false, obs := [], outs := [] })) (N { tm := [vJ, AV.ptr 0 0, vJ, vJ, vI (IntKind.i64.wrap (i + 1)), vJ, vJ, vJ, vJ, vJ, vJ, vJ, vJ, vJ, vJ, vJ, vJ, vJ, vJ, vJ, vJ, vJ, vJ, vJ, vJ, vJ, vJ, vJ, vJ, vJ, vJ, vJ, vJ, vJ, vJ, vJ, vJ, vJ, vJ, vJ, vJ, vJ, vJ, vJ, vJ, vJ, vJ, vJ, vJ, vJ, vJ, vJ, vJ, vJ, vJ, vJ, vJ, vJ, vJ, vJ, vJ, vJ, vJ, vJ, vJ, vJ, vJ, vJ, vJ, vJ, vJ, vJ, vJ, vJ, vJ, vJ, vJ, vJ, vJ, vJ, vJ, vJ, vJ, vJ, vJ, vJ, vJ, vJ, vJ], ob := [(0, AO.box [vI x, AV.rsl kc s, AV.rsl k3 d, AV.rsl k3 p, vB b, AV.rsl ki f, vI n])], nx := 1000000, ps := [] })) False)) False) (br (smCo (x, s, d, p, b, f, n)) (br (smB (bkS (x, s, d, p, b, f, n).snd.fst)) (br (bookOk (bkS (x, s, d, p, b, f, n).snd.fst)) (br (smCo (x, s, d, p, b, f, n) && ddtOk (x, s, d, p, b, f, n).snd.snd.fst) (br (cntS (x, s, d, p, b, f, n).snd.snd.fst (x, s, d, p, b, f, n).snd.fst) (br (smCo (x, s, d, p, b, f, n)) (R (some { av := vB ((ptsOf (x, s, d, p, b, f, n).snd.fst).all (sumK (x, s, d, p, b, f, n).snd.snd.fst)), obs := [], outs := [] })) False) (R (some { av := vB false, obs := [], outs := [] }))) False) (R (some { av := vB false, obs := [], outs := [] }))) False) False)) := by kernel_rfl
theorem rOk_1 {e : Elem k3} (h : pOk e = false) : rOk e = false := by unfold rOk realP; unfold pOk at h; rw [h]; rfl
theorem rOk_2 {e : Elem k3} (h : (e.1 == 0) = true) : rOk e = false := by unfold rOk realP bne; rw [h, Bool.not_true, Bool.and_false]
theorem rOk_3 {e : Elem k3} (h : pOk e = true) (h2 : (e.1 == 0) = false) : rOk e = true := by unfold rOk realP bne; unfold pOk at h; rw [h, h2]; rfl
theorem pts_ok {s : List (Elem kc)} (h : (allB s.length fun i => setV (atC s i)) = true) : ∀ q ∈ ptsOf s, pOk q = true := by
  intro q hq
  unfold ptsOf at hq
  rw [List.mem_flatMap] at hq
  obtain ⟨e, he, hq⟩ := hq
  obtain ⟨i, hi, rfl⟩ := List.getElem_of_mem he
  have h1 := allB_at h hi
  have e1 : atC s i = s[i] := by unfold atC; rw [List.getD_eq_getElem?_getD, List.getElem?_eq_getElem hi]; rfl
  rw [e1] at h1
  unfold setV at h1
  rw [Bool.and_eq_true] at h1
  obtain ⟨j, hj, rfl⟩ := List.getElem_of_mem hq
  have h2 := allB_at h1.2 (show j < 8 from hj)
  unfold atP at h2
  rw [List.getD_eq_getElem?_getD, List.getElem?_eq_getElem hj] at h2
  exact h2
theorem h13 : G1Ok Tryd.prog 13 g13 := by
  intro args obs k h
  unfold g13 at h
  split at h
  · rename_i k us
    split at h
    rotate_left
    · exact h.elim
    rename_i c hc
    obtain rfl := coreOf_inv hc
    obtain ⟨x, s, d, p, b, f, n⟩ := c
    obtain ⟨hpp, h⟩ := br_and h
    unfold smB' at hpp
    rw [Bool.and_eq_true] at hpp
    obtain ⟨hp, hcs⟩ := hpp
    have hcs : smCs s = true := hcs
    have hl := smCo_s hp
    have hdl := smCo_d hp
    have hpl := smCo_p hp
    have hfl := smCo_f hp
    refine ⟨_, ctr_fn okf hg13 Tryd.func13 (by kernel_rfl) (by kernel_rfl) (by kernel_rfl) fun C => ?_, h⟩
    show bodyP Ef G13 _ Tryd.f13 [coreAV x s d p b f n] [] _
    rw [e13]
    refine br_dec (fun h1 => ?_) (fun h1 => br_dec (fun h2 => ?_) (fun h2 => br_yes hdl (br_not (fun h3 => ?_) (fun h3 => br_dec (fun h4 => ?_) (fun h4 => br_yes hfl (br_not (fun h5 => ?_) (fun h5 => br_dec (fun h6 => ?_) (fun h6 => br_dec (fun h7 => ?_) (fun h7 => ?_)))))))))
    · show _ = _
      rw [cok_x (rng_l h1)]
    · show _ = _
      rw [cok_x (rng_h h2)]
    · show _ = _
      rw [cok_d h3]
    · show _ = _
      rw [cok_p (decide_eq_false (show ¬ (p.length : Int) ≤ 8 by omega))]
    · show _ = _
      rw [cok_f h5]
    · show _ = _
      rw [cok_n (rng_l h6)]
    · show _ = _
      rw [cok_n (rng_h h7)]
    refine loopAll okf13 hg13 (fun i => st13 x s d p b f n i) s.length (fun i => setV (atC s i)) (by omega) (fun N i hi hw next fails done => ?_)
    show evP E13 G13 _ (lp13 4) (st13 x s d p b f n i) (rk13 _ _ 4 _)
    rw [b13, hw, Int.toNat_natCast]
    refine br_dec (fun h8 => br_yes ⟨by omega, h8⟩ (br_t (smCs_at hcs (by omega)) (br_not (fun h9 => ?_) (fun h9 => next (by omega) h9)))) (fun h8 => ?_)
    · show _ = _
      rw [cok_s (fails (by omega) h9)]
    have hS := done (by omega)
    refine loopAll okf13 hg13 (fun i => sp13 x s d p b f n i) p.length (fun i => rOk (atP p i)) (by omega) (fun N2 j hj hw2 next2 fails2 done2 => ?_)
    show evP E13 G13 _ (lp13 9) (sp13 x s d p b f n j) (rk13 _ _ 9 _)
    rw [bp13, hw2, Int.toNat_natCast]
    refine br_dec (fun g1 => br_yes ⟨by omega, g1⟩ (br_not (fun g2 => ?_) (fun g2 => br_yes ⟨by omega, g1⟩ (br_intro (fun g3 => ?_) (fun g3 => ?_))))) (fun g1 => ?_)
    · show _ = _
      rw [cok_r (fails2 (by omega) (rOk_1 g2))]
    · show _ = _
      rw [cok_r (fails2 (by omega) (rOk_2 g3))]
    · exact next2 (by omega) (rOk_3 g2 g3)
    · have hR := done2 (by omega)
      refine br_t hp (br_t (smB_bk hcs) (br_intro (fun g2 => br_t (show (smCo (x, s, d, p, b, f, n) && ddtOk d) = true by rw [hp, h3]; rfl) (br_intro (fun g3 => br_t hp ?_) (fun g3 => ?_))) (fun g2 => ?_)))
      · show _ = _
        have g3 : cntS d s = true := g3
        rw [cok_t (rng_t h1 h2) h3 (decide_eq_true (show (p.length : Int) ≤ 8 by omega)) h5 (rng_t h6 h7) hS hR g2, g3]
        rfl
      · show _ = _
        rw [cok_c g3]
      · show _ = _
        rw [cok_b g2]
  · exact h.elim
noncomputable def E15 : Env := Ef.of Tryd.f15
noncomputable def G15 : Gk := gk [(62, g62), (63, g63), (64, g64r), (67, g67), (71, g55), (70, g54), (72, g72)]
noncomputable def lp15 (n : Nat) : Code := (loopOf n (codeOf Tryd.f15)).getD .skip
noncomputable def ct15 (L : Lp) (R : Option Res → Prop) (n : Nat) : Kt := contOf E15 G15 L n (codeOf Tryd.f15) (endK E15 Tryd.f15.results.toList R)
noncomputable def rk15 (L : Lp) (R : Option Res → Prop) (n : Nat) (N : St → Prop) : Kt := rk (jof E15 (lp15 n)) N (ct15 L R n)
noncomputable def rkn15 (L : Lp) (R : Option Res → Prop) (n : Nat) (N : St → Prop) (m : Nat) (N2 : St → Prop) : Kt := rk (jof E15 (lp15 m)) N2 (contOf E15 G15 L m (lp15 n) (rk15 L R n N))
noncomputable def LOOPN15 (L : Lp) (R : Option Res → Prop) (n : Nat) (N : St → Prop) (m : Nat) (st : St) : Prop := L (lp15 m) st (contOf E15 G15 L m (lp15 n) (rk15 L R n N))
noncomputable def LOOP15 (L : Lp) (R : Option Res → Prop) (n : Nat) (st : St) : Prop := L (lp15 n) st (ct15 L R n)
theorem hg15 : HG Tryd.prog G15 := (hg_cons h62 (hg_cons h63 (hg_cons h64r (hg_cons h67 (hg_cons h71 (hg_cons h70 (hg_cons h72 hg_nil)))))))
theorem okf15 : Ok Tryd.prog E15 := okf.of Tryd.f15
theorem e15 (L : Lp) (R : Option Res → Prop) (x : Int) (s : List (Elem kc)) (d p : List (Elem k3)) (b : Bool) (f : List (Elem ki)) (n : Int) : (bodyP Ef G15 L Tryd.f15 [coreAV x s d p b f n] [] R) = (
    br (!(decide (0 ≤ x) && decide (x ≤ 1000000))) (R (some { av := vB false, obs := [], outs := [] })) (br (decide (d.length ≤ 1048576)) (br (!ddtOk d) (R (some { av := vB false, obs := [], outs := [] })) (br (decide ((↑p.length : Int) > 8)) (R (some { av := vB false, obs := [], outs := [] })) (br (decide (p.length ≤ 1048576)) (br (anyB p.length fun i => !rOk (atP p i)) (R (some { av := vB false, obs := [], outs := [] })) (br (!(decide (0 ≤ n) && decide (n ≤ 8))) (R (some { av := vB false, obs := [], outs := [] })) (LOOP15 L R 4 { tm := [vJ, AV.ptr 0 0, vJ, vJ, vJ, vJ, vJ, vJ, vJ, vJ, vJ, vJ, vJ, vJ, vJ, vJ, vJ, vJ, vJ, vJ, vJ, vJ, vJ, vJ, vJ, vJ, vJ, vJ, vJ, vJ, vJ, vJ, vJ, AV.rsl ki f, vI (↑f.length : Int), vI 0, vJ, vJ, vJ, vJ, vJ, vJ, vJ, vJ, vJ, vJ, vJ, vJ, vJ, vJ, vJ, vJ, vJ, vJ, vJ, vJ, vJ, vJ, vJ, vJ, vJ, vJ, vJ, vJ, vJ, vJ, vJ, vJ, vJ, vJ, vJ], ob := [(0, AO.box [vI x, AV.rsl kc s, AV.rsl k3 d, AV.rsl k3 p, vB b, AV.rsl ki f, vI n])], nx := 1000000, ps := [] }))) False))) False)) := by kernel_rfl
def st15 (x : Int) (s : List (Elem kc)) (d p : List (Elem k3)) (b : Bool) (f : List (Elem ki)) (n : Int) (i : Int) : St :=  ⟨[vJ, AV.ptr 0 0, vJ, vJ, vJ, vJ, vJ, vJ, vJ, vJ, vJ, vJ, vJ, vJ, vJ, vJ, vJ, vJ, vJ, vJ, vJ, vJ, vJ, vJ, vJ, vJ, vJ, vJ, vJ, vJ, vJ, vJ, vJ, AV.rsl ki f, vI (↑f.length : Int), .val (.int .i64 i), vJ, vJ, vJ, vJ, vJ, vJ, vJ, vJ, vJ, vJ, vJ, vJ, vJ, vJ, vJ, vJ, vJ, vJ, vJ, vJ, vJ, vJ, vJ, vJ, vJ, vJ, vJ, vJ, vJ, vJ, vJ, vJ, vJ, vJ, vJ], [(0, AO.box [vI x, AV.rsl kc s, AV.rsl k3 d, AV.rsl k3 p, vB b, AV.rsl ki f, vI n])], 1000000, []⟩
theorem b15 (L : Lp) (R : Option Res → Prop) (N : St → Prop) (x : Int) (s : List (Elem kc)) (d p : List (Elem k3)) (b : Bool) (f : List (Elem ki)) (n : Int) (i : Int) : (evP E15 G15 L (lp15 4) (st15 x s d p b f n i) (rk15 L R 4 N)) = (
    br (decide (i < (↑f.length : Int))) (br (decide (0 ≤ i ∧ i < (↑f.length : Int))) (br (!(decide (13 ≤ (f.getD i.toNat (edflt ki)).fst) && decide ((f.getD i.toNat (edflt ki)).fst ≤ 119))) (R (some { av := vB false, obs := [], outs := [] })) (br (decide (i > 0)) (br (decide (0 ≤ IntKind.i64.wrap (i - 1) ∧ IntKind.i64.wrap (i - 1) < (↑f.length : Int))) (br (decide ((f.getD (IntKind.i64.wrap (i - 1)).toNat (edflt ki)).fst ≥ (f.getD i.toNat (edflt ki)).fst)) (R (some { av := vB false, obs := [], outs := [] })) (N { tm := [vJ, AV.ptr 0 0, vJ, vJ, vJ, vJ, vJ, vJ, vJ, vJ, vJ, vJ, vJ, vJ, vJ, vJ, vJ, vJ, vJ, vJ, vJ, vJ, vJ, vJ, vJ, vJ, vJ, vJ, vJ, vJ, vJ, vJ, vJ, AV.rsl ki f, vI (↑f.length : Int), vI (IntKind.i64.wrap (i + 1)), vJ, vJ, vJ, vJ, vJ, vJ, vJ, vJ, vJ, vJ, vJ, vJ, vJ, vJ, vJ, vJ, vJ, vJ, vJ, vJ, vJ, vJ, vJ, vJ, vJ, vJ, vJ, vJ, vJ, vJ, vJ, vJ, vJ, vJ, vJ], ob := [(0, AO.box [vI x, AV.rsl kc s, AV.rsl k3 d, AV.rsl k3 p, vB b, AV.rsl ki f, vI n])], nx := 1000000, ps := [] })) False) (N { tm := [vJ, AV.ptr 0 0, vJ, vJ, vJ, vJ, vJ, vJ, vJ, vJ, vJ, vJ, vJ, vJ, vJ, vJ, vJ, vJ, vJ, vJ, vJ, vJ, vJ, vJ, vJ, vJ, vJ, vJ, vJ, vJ, vJ, vJ, vJ, AV.rsl ki f, vI (↑f.length : Int), vI (IntKind.i64.wrap (i + 1)), vJ, vJ, vJ, vJ, vJ, vJ, vJ, vJ, vJ, vJ, vJ, vJ, vJ, vJ, vJ, vJ, vJ, vJ, vJ, vJ, vJ, vJ, vJ, vJ, vJ, vJ, vJ, vJ, vJ, vJ, vJ, vJ, vJ, vJ, vJ], ob := [(0, AO.box [vI x, AV.rsl kc s, AV.rsl k3 d, AV.rsl k3 p, vB b, AV.rsl ki f, vI n])], nx := 1000000, ps := [] }))) False) (br (smCs s) (br (!anyB s.length fun i => !setV (atC s i)) (br (smCo (x, s, d, p, b, f, n)) (br (smB (bkS (x, s, d, p, b, f, n).snd.fst)) (br (bookOk (bkS (x, s, d, p, b, f, n).snd.fst)) (br (smCo (x, s, d, p, b, f, n)) (R (some { av := vB (cntI (x, s, d, p, b, f, n).snd.snd.fst (x, s, d, p, b, f, n).snd.fst), obs := [], outs := [] })) False) (R (some { av := vB false, obs := [], outs := [] }))) False) False) (R (some { av := vB false, obs := [], outs := [] }))) False)) := by kernel_rfl
theorem anyN {n : Nat} {q : Nat → Bool} : (anyB n fun i => !q i) = !allB n q := by
  rw [anyB_all]
  congr 1
  exact allB_congr fun i _ => by rw [Bool.not_not]
theorem h15 : G1Ok Tryd.prog 15 g13 := by
  intro args obs k h
  unfold g13 at h
  split at h
  · rename_i k us
    split at h
    rotate_left
    · exact h.elim
    rename_i c hc
    obtain rfl := coreOf_inv hc
    obtain ⟨x, s, d, p, b, f, n⟩ := c
    obtain ⟨hpp, h⟩ := br_and h
    unfold smB' at hpp
    rw [Bool.and_eq_true] at hpp
    obtain ⟨hp, hcs⟩ := hpp
    have hcs : smCs s = true := hcs
    have hl := smCo_s hp
    have hdl := smCo_d hp
    have hpl := smCo_p hp
    have hfl := smCo_f hp
    refine ⟨_, ctr_fn okf hg15 Tryd.func15 (by kernel_rfl) (by kernel_rfl) (by kernel_rfl) fun C => ?_, h⟩
    show bodyP Ef G15 _ Tryd.f15 [coreAV x s d p b f n] [] _
    rw [e15, anyN]
    refine br_not (fun h1 => ?_) (fun h1 => br_yes hdl (br_not (fun h3 => ?_) (fun h3 => br_dec (fun h4 => ?_) (fun h4 => br_yes hpl (br_not (fun h5 => ?_) (fun h5 => br_not (fun h6 => ?_) (fun h6 => ?_)))))))
    · show _ = _
      rw [cok_x h1]
    · show _ = _
      rw [cok_d h3]
    · show _ = _
      rw [cok_p (decide_eq_false (show ¬ (p.length : Int) ≤ 8 by omega))]
    · show _ = _
      rw [cok_r h5]
    · show _ = _
      rw [cok_n h6]
    refine loopAll okf15 hg15 (fun i => st15 x s d p b f n i) f.length (plc1 f) (by omega) (fun N i hi hw next fails done => ?_)
    show evP E15 G15 _ (lp15 4) (st15 x s d p b f n i) (rk15 _ _ 4 _)
    rw [b15, hw, Int.toNat_natCast, anyN]
    refine br_dec (fun h8 => br_yes ⟨by omega, h8⟩ (br_not (fun h9 => ?_) (fun h9 => br_dec (fun g1 => ?_) (fun g1 => ?_)))) (fun h8 => ?_)
    · show _ = _
      rw [cok_f (fails (by omega) (by rcases rng_f (x := atI f i) h9 with g | g; exact plc_l g; exact plc_h (by omega)))]
    · have h9 := rng_i (x := atI f i) h9
      rw [ix_pred g1 (by omega), Int.toNat_natCast]
      refine br_yes ⟨by omega, by omega⟩ (br_dec (fun g2 => ?_) (fun g2 => ?_))
      · show _ = _
        rw [cok_f (fails (by omega) (plc_o g1 g2))]
      · exact next (by omega) (plc_t (by omega) (by omega) (.inr (Int.not_le.1 g2)))
    · have h9 := rng_i (x := atI f i) h9
      exact next (by omega) (plc_t (by omega) (by omega) (.inl (by omega)))
    · have hF : plcs f = true := done (by omega)
      refine br_t hcs (br_not (fun g1 => br_t hp (br_t (smB_bk hcs) (br_intro (fun g2 => br_t hp ?_) (fun g2 => ?_)))) (fun g1 => ?_))
      · have hS : (allB s.length fun i => setV (atC s i)) = true := by cases hh : allB s.length fun i => setV (atC s i) with | true => rfl | false => rw [hh] at g1; cases g1
        show _ = _
        rw [cok_t h1 h3 (decide_eq_true (show (p.length : Int) ≤ 8 by omega)) hF h6 hS h5 g2, ← cnt_eqv h3 (pts_ok hS)]
      · show _ = _
        rw [cok_b g2]
      · have hS : (allB s.length fun i => setV (atC s i)) = false := by cases hh : allB s.length fun i => setV (atC s i) with | true => rw [hh] at g1; cases g1 | false => rfl
        show _ = _
        rw [cok_s hS]
  · exact h.elim
noncomputable def E3 : Env := E0.of Tryd.f3
noncomputable def G3 : Gk := gk [(12, g12), (13, g13), (14, g14), (15, g13), (16, g16)]
noncomputable def lp3 (n : Nat) : Code := (loopOf n (codeOf Tryd.f3)).getD .skip
noncomputable def ct3 (L : Lp) (R : Option Res → Prop) (n : Nat) : Kt := contOf E3 G3 L n (codeOf Tryd.f3) (endK E3 Tryd.f3.results.toList R)
noncomputable def rk3 (L : Lp) (R : Option Res → Prop) (n : Nat) (N : St → Prop) : Kt := rk (jof E3 (lp3 n)) N (ct3 L R n)
noncomputable def rkn3 (L : Lp) (R : Option Res → Prop) (n : Nat) (N : St → Prop) (m : Nat) (N2 : St → Prop) : Kt := rk (jof E3 (lp3 m)) N2 (contOf E3 G3 L m (lp3 n) (rk3 L R n N))
noncomputable def LOOPN3 (L : Lp) (R : Option Res → Prop) (n : Nat) (N : St → Prop) (m : Nat) (st : St) : Prop := L (lp3 m) st (contOf E3 G3 L m (lp3 n) (rk3 L R n N))
noncomputable def LOOP3 (L : Lp) (R : Option Res → Prop) (n : Nat) (st : St) : Prop := L (lp3 n) st (ct3 L R n)
theorem hg3 : HG Tryd.prog G3 := (hg_cons h12 (hg_cons h13 (hg_cons h14 (hg_cons h15 (hg_cons h16 hg_nil)))))
theorem okf3 : Ok Tryd.prog E3 := ok0.of Tryd.f3
theorem e3 (L : Lp) (R : Option Res → Prop) (x : Int) (s : List (Elem kc)) (d p : List (Elem k3)) (b : Bool) (f : List (Elem ki)) (n : Int) : (bodyP E0 G3 L Tryd.f3 [coreAV x s d p b f n] [] R) = (
    br (inCo (x, s, d, p, b, f, n) && true) (br (decide (szR 1048576 (szCo (x, s, d, p, b, f, n)) < 0)) (R (some { av := vB true, obs := [], outs := [] })) (br (smCo (x, s, d, p, b, f, n)) (br (smB' (x, s, d, p, b, f, n)) (br (smCo (x, s, d, p, b, f, n)) (br (smB' (x, s, d, p, b, f, n)) (br (!coreOk (x, s, d, p, b, f, n).fst (x, s, d, p, b, f, n).snd.fst (x, s, d, p, b, f, n).snd.snd.fst (x, s, d, p, b, f, n).snd.snd.snd.fst (x, s, d, p, b, f, n).snd.snd.snd.snd.snd.fst (x, s, d, p, b, f, n).snd.snd.snd.snd.snd.snd == coreOk (x, s, d, p, b, f, n).fst (x, s, d, p, b, f, n).snd.fst (x, s, d, p, b, f, n).snd.snd.fst (x, s, d, p, b, f, n).snd.snd.snd.fst (x, s, d, p, b, f, n).snd.snd.snd.snd.snd.fst (x, s, d, p, b, f, n).snd.snd.snd.snd.snd.snd) (R (some { av := vB false, obs := [], outs := [] })) (br (smCo (x, s, d, p, b, f, n)) (br (smCo (x, s, d, p, b, f, n)) (br (!eqCo (x, s, d, p, b, f, n) (x, s, d, p, b, f, n)) (R (some { av := vB false, obs := [], outs := [] })) (R (some { av := vB true, obs := [], outs := [] }))) False) False)) False) False) False) False)) False) := by kernel_rfl
theorem smCs_of {s : List (Elem kc)} (h : szCs s ≤ 1048576) : smCs s = true := by
  have h : s.length + (s.map szC).sum ≤ 1048576 := h
  unfold smCs
  rw [Bool.and_eq_true, decide_eq_true_eq, List.all_eq_true]
  refine ⟨by omega, fun e he => ?_⟩
  have h1 := sum_mem szC he
  have h2 : szC e = e.1.size + e.2.2.1.size := rfl
  unfold smC
  rw [Bool.and_eq_true, decide_eq_true_eq, decide_eq_true_eq]
  omega
theorem smB'_of {x : Int} {s : List (Elem kc)} {d p : List (Elem k3)} {b : Bool} {f : List (Elem ki)} {n : Int} {l : Int} (hl : l ≤ 1048576) (h : ¬ szR l (szCo (x, s, d, p, b, f, n)) < 0) : smB' (x, s, d, p, b, f, n) = true := by
  have h1 := smCo_of hl h
  have h2 := szR_ge0 h
  have e : szCo (x, s, d, p, b, f, n) = szCs s + d.length + p.length + f.length := rfl
  unfold smB'
  rw [h1, Bool.true_and]
  exact smCs_of (s := s) (by omega)
theorem not_beq_self (q : Bool) : (!q == q) = false := by cases q <;> rfl
theorem c3 (x : Int) (s : List (Elem kc)) (d p : List (Elem k3)) (b : Bool) (f : List (Elem ki)) (n : Int) (h : coOk x s d p b f n) : Ctr Tryd.prog 3 [coreAV x s d p b f n] [] ⟨.val (.bool true), [], []⟩ := by
  refine ctr_fn ok0 hg3 Tryd.func3 (by kernel_rfl) (by kernel_rfl) (by kernel_rfl) fun C => ?_
  rw [e3, inCo_of h]
  refine br_t rfl (br_dec (fun _ => rfl) (fun h1 => ?_))
  have hs := smCo_of (Int.le_refl _) h1
  have hb := smB'_of (Int.le_refl _) h1
  rw [hs, hb, eqCo_self]
  refine br_t rfl (br_t rfl (br_t rfl (br_t rfl (br_f ?_ (br_t rfl (br_t rfl rfl))))))
  exact not_beq_self _
end Go.Proofs.YtljilcingbohkabDoor.Ev
