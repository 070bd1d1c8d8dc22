/- The law of CoreBook: books out of blocks. -/
import Derived.Test.YtkjnijddbiconaaGreatDoorK5
import Derived.Test.YtkjnijddbiconaaGreatDoorC9
namespace Go.Proofs.YtkjnijddbiconaaGreatDoor.Ev
open Go
set_option linter.unusedVariables false
set_option linter.unusedSimpArgs false
set_option maxRecDepth 100000
set_option maxHeartbeats 1000000
def rdM (da db : List (Elem ks)) (dc : List (Elem kl)) (e : Elem kc) (j : Nat) : ByteArray × Int := rdBlk da db dc (atP (mps e) j).1 (atP (mps e) j).2.1 (atP (mps e) j).2.2.1
def okM (da db : List (Elem ks)) (dc : List (Elem kl)) (e : Elem kc) (j : Nat) : Bool := !((rdM da db dc e j).2 == 2) && !decide (((rdM da db dc e j).1.size : Int) > 24)
def cel (da db : List (Elem ks)) (dc : List (Elem kl)) (e : Elem kc) (k m : Nat) : ByteArray := match Nat.blt m k with
  | true => (rdM da db dc e m).1
  | false => ByteArray.empty
def ptB (da db : List (Elem ks)) (dc : List (Elem kl)) (e : Elem kc) (k : Nat) : Elem kb := (e.1, e.2.1, e.2.2.1, cel da db dc e k 0, cel da db dc e k 1, cel da db dc e k 2, cel da db dc e k 3, cel da db dc e k 4, cel da db dc e k 5, cel da db dc e k 6, cel da db dc e k 7, ())
def cbOk (da db : List (Elem ks)) (dc : List (Elem kl)) (c : Co) : Bool := dkOk da db dc && (coreOk c.1 c.2.1 c.2.2.1 c.2.2.2.1 c.2.2.2.2.2.1 c.2.2.2.2.2.2 && allB c.2.1.length fun i => allB 8 (okM da db dc (atC c.2.1 i)))
def cbS (da db : List (Elem ks)) (dc : List (Elem kl)) (c : Co) : List (Elem kb) := match cbOk da db dc c with
  | true => c.2.1.map fun e => ptB da db dc e 8
  | false => []
def g27 : G1
  | [.agg [.rsl [.str] da, .rsl [.str] db, .rsl [.int .i64, .int .i64, .str] dc], .agg us], [], k => match coreOf us with
    | some c => br (smD da db dc && smB' c) (k ⟨.tup [.agg [.ows 0], .val (.bool (cbOk da db dc c))], [.row kb (cbS da db dc c)], []⟩) False
    | none => False
  | _, _, _ => False
def stp (i k q : Nat) : Nat := if q < i then 8 else if q = i then k else 0
def midB (da db : List (Elem ks)) (dc : List (Elem kl)) (s : List (Elem kc)) (i k : Nat) : List (Elem kb) := (List.range s.length).map fun q => ptB da db dc (atC s q) (stp i k q)
theorem mid_len (da db : List (Elem ks)) (dc : List (Elem kl)) (s : List (Elem kc)) (i k : Nat) : (midB da db dc s i k).length = s.length := by simp [midB]
theorem mid_at (da db : List (Elem ks)) (dc : List (Elem kl)) (s : List (Elem kc)) (i k : Nat) {q : Nat} (hq : q < s.length) : (midB da db dc s i k)[q]? = some (ptB da db dc (atC s q) (stp i k q)) := by
  unfold midB
  rw [List.getElem?_map, List.getElem?_range hq]
  rfl
theorem mid_0 (da db : List (Elem ks)) (dc : List (Elem kl)) (s : List (Elem kc)) : midB da db dc s 0 0 = bkS s := by
  apply List.ext_getElem?
  intro q
  by_cases hq : q < s.length
  · rw [mid_at da db dc s 0 0 hq]
    unfold bkS
    rw [List.getElem?_map, List.getElem?_eq_getElem hq]
    have e1 : stp 0 0 q = 0 := by unfold stp; rw [if_neg (by omega)]; split <;> rfl
    have e2 : atC s q = s[q] := by
      show s.getD q _ = _
      rw [List.getD_eq_getElem?_getD, List.getElem?_eq_getElem hq]
      rfl
    rw [e1, e2]
    rfl
  · rw [List.getElem?_eq_none (by rw [mid_len]; omega), List.getElem?_eq_none (by unfold bkS; rw [List.length_map]; omega)]
theorem mid_n (da db : List (Elem ks)) (dc : List (Elem kl)) (s : List (Elem kc)) {i : Nat} (hi : s.length ≤ i) : midB da db dc s i 0 = s.map fun e => ptB da db dc e 8 := by
  apply List.ext_getElem?
  intro q
  by_cases hq : q < s.length
  · rw [mid_at da db dc s i 0 hq]
    rw [List.getElem?_map, List.getElem?_eq_getElem hq]
    have e1 : stp i 0 q = 8 := by unfold stp; rw [if_pos (by omega)]
    have e2 : atC s q = s[q] := by
      show s.getD q _ = _
      rw [List.getD_eq_getElem?_getD, List.getElem?_eq_getElem hq]
      rfl
    rw [e1, e2]
    rfl
  · rw [List.getElem?_eq_none (by rw [mid_len]; omega), List.getElem?_eq_none (by rw [List.length_map]; omega)]
theorem mid_s (da db : List (Elem ks)) (dc : List (Elem kl)) (s : List (Elem kc)) (i : Nat) : midB da db dc s i 8 = midB da db dc s (i + 1) 0 := by
  apply List.ext_getElem?
  intro q
  by_cases hq : q < s.length
  · rw [mid_at da db dc s i 8 hq, mid_at da db dc s (i + 1) 0 hq]
    have : stp i 8 q = stp (i + 1) 0 q := by
      unfold stp
      by_cases h1 : q < i
      · rw [if_pos h1, if_pos (by omega)]
      · rw [if_neg h1]
        by_cases h2 : q = i
        · rw [if_pos h2, if_pos (by omega)]
        · rw [if_neg h2, if_neg (by omega)]
          split <;> rfl
    rw [this]
  · rw [List.getElem?_eq_none (by rw [mid_len]; omega), List.getElem?_eq_none (by rw [mid_len]; omega)]
theorem mid_u (da db : List (Elem ks)) (dc : List (Elem kl)) (s : List (Elem kc)) {i j c : Nat} {vs : List Value} (hi : i < s.length) (h : putV kb c vs (ptB da db dc (atC s i) j) = ptB da db dc (atC s i) (j + 1)) :
    updR kb (midB da db dc s i j) i c vs = midB da db dc s i (j + 1) := by
  unfold updR
  apply List.ext_getElem?
  intro q
  rw [List.getElem?_set]
  by_cases hq : q < s.length
  · rw [mid_at da db dc s i (j + 1) hq, mid_at da db dc s i j hq]
    by_cases h2 : i = q
    · subst h2
      rw [if_pos rfl, if_pos (by rw [mid_len]; exact hi), List.getD_eq_getElem?_getD, mid_at da db dc s i j hi]
      have e1 : ∀ k, stp i k i = k := by intro k; unfold stp; rw [if_neg (by omega), if_pos rfl]
      rw [e1, e1]
      show some (putV kb c vs (ptB da db dc (atC s i) j)) = _
      rw [h]
    · rw [if_neg h2]
      have : stp i j q = stp i (j + 1) q := by
        unfold stp
        by_cases h1 : q < i
        · rw [if_pos h1, if_pos h1]
        · rw [if_neg h1, if_neg h1, if_neg (by omega), if_neg (by omega)]
      rw [this]
  · rw [if_neg (by omega), List.getElem?_eq_none (by rw [mid_len]; omega), List.getElem?_eq_none (by rw [mid_len]; omega)]
theorem cb_d (da db : List (Elem ks)) (dc : List (Elem kl)) {c : Co} (h : dkOk da db dc = false) : cbOk da db dc c = false := by unfold cbOk; rw [h]; rfl
theorem cb_c (da db : List (Elem ks)) (dc : List (Elem kl)) {c : Co} (h : coreOk c.1 c.2.1 c.2.2.1 c.2.2.2.1 c.2.2.2.2.2.1 c.2.2.2.2.2.2 = false) : cbOk da db dc c = false := by unfold cbOk; rw [h]; simp
theorem cb_s (da db : List (Elem ks)) (dc : List (Elem kl)) {c : Co} {i j : Nat} (hi : i < c.2.1.length) (hj : j < 8) (h : okM da db dc (atC c.2.1 i) j = false) : cbOk da db dc c = false := by
  unfold cbOk
  rw [allB_f hi (allB_f hj h)]
  simp
theorem cb_t (da db : List (Elem ks)) (dc : List (Elem kl)) {c : Co} (h1 : dkOk da db dc = true) (h2 : coreOk c.1 c.2.1 c.2.2.1 c.2.2.2.1 c.2.2.2.2.2.1 c.2.2.2.2.2.2 = true) (h : ∀ i, i < c.2.1.length → ∀ j, j < 8 → okM da db dc (atC c.2.1 i) j = true) : cbOk da db dc c = true := by
  unfold cbOk
  rw [h1, h2, allB_t fun i hi => allB_t fun j hj => h i hi j hj]
  rfl
theorem cbS_f (da db : List (Elem ks)) (dc : List (Elem kl)) {c : Co} (h : cbOk da db dc c = false) : cbS da db dc c = [] := by unfold cbS; rw [h]
theorem cbS_t (da db : List (Elem ks)) (dc : List (Elem kl)) {c : Co} (h : cbOk da db dc c = true) : cbS da db dc c = c.2.1.map fun e => ptB da db dc e 8 := by unfold cbS; rw [h]
theorem okM_2 (da db : List (Elem ks)) (dc : List (Elem kl)) {e : Elem kc} {j : Nat} (h : ((rdM da db dc e j).2 == 2) = true) : okM da db dc e j = false := by unfold okM; rw [h]; rfl
theorem okM_l (da db : List (Elem ks)) (dc : List (Elem kl)) {e : Elem kc} {j : Nat} (h : ((rdM da db dc e j).1.size : Int) > 24) : okM da db dc e j = false := by unfold okM; rw [decide_eq_true h]; simp
theorem okM_t (da db : List (Elem ks)) (dc : List (Elem kl)) {e : Elem kc} {j : Nat} (h1 : ((rdM da db dc e j).2 == 2) = false) (h : ¬ ((rdM da db dc e j).1.size : Int) > 24) : okM da db dc e j = true := by unfold okM; rw [h1, decide_eq_false h]; rfl
noncomputable def E27 : Env := E0.of Tryz.f27
noncomputable def G27 : Gk := gk [(79, g84), (39, g39), (80, g80), (81, g81)]
noncomputable def lp27 (n : Nat) : Code := (loopOf n (codeOf Tryz.f27)).getD .skip
noncomputable def ct27 (L : Lp) (R : Option Res → Prop) (n : Nat) : Kt := contOf E27 G27 L n (codeOf Tryz.f27) (endK E27 Tryz.f27.results.toList R)
noncomputable def rk27 (L : Lp) (R : Option Res → Prop) (n : Nat) (N : St → Prop) : Kt := rk (jof E27 (lp27 n)) N (ct27 L R n)
noncomputable def rkn27 (L : Lp) (R : Option Res → Prop) (n : Nat) (N : St → Prop) (m : Nat) (N2 : St → Prop) : Kt := rk (jof E27 (lp27 m)) N2 (contOf E27 G27 L m (lp27 n) (rk27 L R n N))
noncomputable def LOOPN27 (L : Lp) (R : Option Res → Prop) (n : Nat) (N : St → Prop) (m : Nat) (st : St) : Prop := L (lp27 m) st (contOf E27 G27 L m (lp27 n) (rk27 L R n N))
noncomputable def LOOP27 (L : Lp) (R : Option Res → Prop) (n : Nat) (st : St) : Prop := L (lp27 n) st (ct27 L R n)
theorem hg27 : HG Tryz.prog G27 := (hg_cons h79 (hg_cons h39 (hg_cons h80 (hg_cons h81 hg_nil))))
theorem okf27 : Ok Tryz.prog E27 := ok0.of Tryz.f27
theorem e27 (L : Lp) (R : Option Res → Prop) (da db : List (Elem ks)) (dc : List (Elem kl)) (x : Int) (s : List (Elem kc)) (d p : List (Elem k3)) (b : Bool) (f : List (Elem ki)) (n : Int) : (bodyP Ef G27 L Tryz.f27 [.agg [.rsl ks da, .rsl ks db, .rsl kl dc], coreAV x s d p b f n] [] R) = (
    br (smD da db dc) (br (!dkOk da db dc) (R (some { av := AV.tup [AV.agg [AV.ows 0], vB false], obs := [AO.row kb []], outs := [] })) (br (smB' (x, s, d, p, b, f, n)) (br (!coreOk (x, s, d, p, b, f, n).fst (x, s, d, p, b, f, n).snd.fst (x, s, d, p, b, f, n).snd.snd.fst (x, s, d, p, b, f, n).snd.snd.snd.fst (x, s, d, p, b, f, n).snd.snd.snd.snd.snd.fst (x, s, d, p, b, f, n).snd.snd.snd.snd.snd.snd) (R (some { av := AV.tup [AV.agg [AV.ows 0], vB false], obs := [AO.row kb []], outs := [] })) (br (smCo (x, s, d, p, b, f, n)) (LOOP27 L R 5 { tm := [vJ, vJ, AV.ptr 0 0, AV.ptr 1 0, AV.ptr 2 0, vJ, AV.ptr 4 0, vI 0, vJ, vJ, vJ, vJ, vJ, vJ, vJ, vJ, vJ, vJ, vJ, vJ, vJ, vJ, vJ, vJ, vJ, vJ, vJ, vJ, vJ, vJ, vJ, vJ, vJ, vJ, vJ, vJ, vJ, vJ, vJ, vJ, vJ, vJ, vJ, vJ, vJ, vJ, vJ, vJ, vJ, vJ, vJ, vJ, vJ, vJ, vJ, vJ, vJ, vJ, vJ, vJ, vJ, vJ, vJ], ob := [(0, AO.box [AV.rsl ks da, AV.rsl ks db, AV.rsl kl dc]), (1, AO.box [vI x, AV.rsl kc s, AV.rsl k3 d, AV.rsl k3 p, vB b, AV.rsl ki f, vI n]), (2, AO.box [AV.ows 3]), (3, AO.row kb []), (4, AO.box [AV.ows 5]), (5, AO.row kb (bkS (x, s, d, p, b, f, n).snd.fst))], nx := 1000000, ps := [] }) False)) False)) False) := by kernel_rfl
def st27 (da db : List (Elem ks)) (dc : List (Elem kl)) (x : Int) (s : List (Elem kc)) (d p : List (Elem k3)) (b : Bool) (f : List (Elem ki)) (n : Int) (i : Int) (ys : List (Elem kb)) : St :=  ⟨[vJ, vJ, AV.ptr 0 0, AV.ptr 1 0, AV.ptr 2 0, vJ, AV.ptr 4 0, .val (.int .i64 i), vJ, vJ, vJ, vJ, vJ, vJ, vJ, vJ, vJ, vJ, vJ, vJ, vJ, vJ, vJ, vJ, vJ, vJ, vJ, vJ, vJ, vJ, vJ, vJ, vJ, vJ, vJ, vJ, vJ, vJ, vJ, vJ, vJ, vJ, vJ, vJ, vJ, vJ, vJ, vJ, vJ, vJ, vJ, vJ, vJ, vJ, vJ, vJ, vJ, vJ, vJ, vJ, vJ, vJ, vJ], [(0, AO.box [AV.rsl ks da, AV.rsl ks db, AV.rsl kl dc]), (1, AO.box [vI x, AV.rsl kc s, AV.rsl k3 d, AV.rsl k3 p, vB b, AV.rsl ki f, vI n]), (2, AO.box [AV.ows 3]), (3, AO.row kb []), (4, AO.box [AV.ows 5]), (5, .row kb ys)], 1000000, []⟩
theorem b27 (L : Lp) (R : Option Res → Prop) (N : St → Prop) (da db : List (Elem ks)) (dc : List (Elem kl)) (x : Int) (s : List (Elem kc)) (d p : List (Elem k3)) (b : Bool) (f : List (Elem ki)) (n : Int) (i : Int) (ys : List (Elem kb)) : (evP E27 G27 L (lp27 5) (st27 da db dc x s d p b f n i ys) (rk27 L R 5 N)) = (
    br (decide (i < (↑s.length : Int))) (LOOPN27 L R 5 N 8 { tm := [vJ, vJ, AV.ptr 0 0, AV.ptr 1 0, AV.ptr 2 0, vJ, AV.ptr 4 0, vI i, vI 0, vJ, vJ, vJ, vJ, vJ, vJ, vJ, vJ, vJ, vJ, vJ, vJ, vJ, vI i, AV.ptr 1 1, AV.rsl kc s, vI (↑s.length : Int), vB (decide (i < (↑s.length : Int))), vJ, vJ, vJ, vJ, vJ, vJ, vJ, vJ, vJ, vJ, vJ, vJ, vJ, vJ, vJ, vJ, vJ, vJ, vJ, vJ, vJ, vJ, vJ, vJ, vJ, vJ, vJ, vJ, vJ, vJ, vJ, vJ, vJ, vJ, vJ, vJ], ob := [(0, AO.box [AV.rsl ks da, AV.rsl ks db, AV.rsl kl dc]), (1, AO.box [vI x, AV.rsl kc s, AV.rsl k3 d, AV.rsl k3 p, vB b, AV.rsl ki f, vI n]), (2, AO.box [AV.ows 3]), (3, AO.row kb []), (4, AO.box [AV.ows 5]), (5, AO.row kb ys)], nx := 1000000, ps := [] }) (R (some { av := AV.tup [AV.agg [AV.ows 0], vB true], obs := [AO.row kb ys], outs := [] }))) := by kernel_rfl
def si27 (da db : List (Elem ks)) (dc : List (Elem kl)) (x : Int) (s : List (Elem kc)) (d p : List (Elem k3)) (b : Bool) (f : List (Elem ki)) (n : Int) (i j : Int) (ys : List (Elem kb)) : St :=  ⟨[vJ, vJ, AV.ptr 0 0, AV.ptr 1 0, AV.ptr 2 0, vJ, AV.ptr 4 0, .val (.int .i64 i), .val (.int .i64 j), vJ, vJ, vJ, vJ, vJ, vJ, vJ, vJ, vJ, vJ, vJ, vJ, vJ, vI i, AV.ptr 1 1, AV.rsl kc s, vI (↑s.length : Int), vB (decide (i < (↑s.length : Int))), vJ, vJ, vJ, vJ, vJ, vJ, vJ, vJ, vJ, vJ, vJ, vJ, vJ, vJ, vJ, vJ, vJ, vJ, vJ, vJ, vJ, vJ, vJ, vJ, vJ, vJ, vJ, vJ, vJ, vJ, vJ, vJ, vJ, vJ, vJ, vJ], [(0, AO.box [AV.rsl ks da, AV.rsl ks db, AV.rsl kl dc]), (1, AO.box [vI x, AV.rsl kc s, AV.rsl k3 d, AV.rsl k3 p, vB b, AV.rsl ki f, vI n]), (2, AO.box [AV.ows 3]), (3, AO.row kb []), (4, AO.box [AV.ows 5]), (5, .row kb ys)], 1000000, []⟩
theorem bi27_0 (L : Lp) (R : Option Res → Prop) (N N2 : St → Prop) (da db : List (Elem ks)) (dc : List (Elem kl)) (x : Int) (s : List (Elem kc)) (d p : List (Elem k3)) (b : Bool) (f : List (Elem ki)) (n : Int) (i : Int) (ys : List (Elem kb)) : evP E27 G27 L (lp27 8) (si27 da db dc x s d p b f n i 0 ys) (rkn27 L R 5 N 8 N2) =
    br (decide (0 ≤ i ∧ i < (s.length : Int))) (br (smD da db dc) (br ((rdM da db dc (atC s i.toNat) 0).2 == 2) (R (some ⟨.tup [.agg [.ows 0], .val (.bool false)], [.row kb []], []⟩)) (br (decide (((rdM da db dc (atC s i.toNat) 0).1.size : Int) > 24)) (R (some ⟨.tup [.agg [.ows 0], .val (.bool false)], [.row kb []], []⟩)) (br (decide (0 ≤ i ∧ i < (ys.length : Int))) (N2 (si27 da db dc x s d p b f n i 1 (updR kb ys i.toNat 3 [.string (rdM da db dc (atC s i.toNat) 0).1]))) False))) False) False := by kernel_rfl
theorem bi27_1 (L : Lp) (R : Option Res → Prop) (N N2 : St → Prop) (da db : List (Elem ks)) (dc : List (Elem kl)) (x : Int) (s : List (Elem kc)) (d p : List (Elem k3)) (b : Bool) (f : List (Elem ki)) (n : Int) (i : Int) (ys : List (Elem kb)) : evP E27 G27 L (lp27 8) (si27 da db dc x s d p b f n i 1 ys) (rkn27 L R 5 N 8 N2) =
    br (decide (0 ≤ i ∧ i < (s.length : Int))) (br (smD da db dc) (br ((rdM da db dc (atC s i.toNat) 1).2 == 2) (R (some ⟨.tup [.agg [.ows 0], .val (.bool false)], [.row kb []], []⟩)) (br (decide (((rdM da db dc (atC s i.toNat) 1).1.size : Int) > 24)) (R (some ⟨.tup [.agg [.ows 0], .val (.bool false)], [.row kb []], []⟩)) (br (decide (0 ≤ i ∧ i < (ys.length : Int))) (N2 (si27 da db dc x s d p b f n i 2 (updR kb ys i.toNat 4 [.string (rdM da db dc (atC s i.toNat) 1).1]))) False))) False) False := by kernel_rfl
theorem bi27_2 (L : Lp) (R : Option Res → Prop) (N N2 : St → Prop) (da db : List (Elem ks)) (dc : List (Elem kl)) (x : Int) (s : List (Elem kc)) (d p : List (Elem k3)) (b : Bool) (f : List (Elem ki)) (n : Int) (i : Int) (ys : List (Elem kb)) : evP E27 G27 L (lp27 8) (si27 da db dc x s d p b f n i 2 ys) (rkn27 L R 5 N 8 N2) =
    br (decide (0 ≤ i ∧ i < (s.length : Int))) (br (smD da db dc) (br ((rdM da db dc (atC s i.toNat) 2).2 == 2) (R (some ⟨.tup [.agg [.ows 0], .val (.bool false)], [.row kb []], []⟩)) (br (decide (((rdM da db dc (atC s i.toNat) 2).1.size : Int) > 24)) (R (some ⟨.tup [.agg [.ows 0], .val (.bool false)], [.row kb []], []⟩)) (br (decide (0 ≤ i ∧ i < (ys.length : Int))) (N2 (si27 da db dc x s d p b f n i 3 (updR kb ys i.toNat 5 [.string (rdM da db dc (atC s i.toNat) 2).1]))) False))) False) False := by kernel_rfl
theorem bi27_3 (L : Lp) (R : Option Res → Prop) (N N2 : St → Prop) (da db : List (Elem ks)) (dc : List (Elem kl)) (x : Int) (s : List (Elem kc)) (d p : List (Elem k3)) (b : Bool) (f : List (Elem ki)) (n : Int) (i : Int) (ys : List (Elem kb)) : evP E27 G27 L (lp27 8) (si27 da db dc x s d p b f n i 3 ys) (rkn27 L R 5 N 8 N2) =
    br (decide (0 ≤ i ∧ i < (s.length : Int))) (br (smD da db dc) (br ((rdM da db dc (atC s i.toNat) 3).2 == 2) (R (some ⟨.tup [.agg [.ows 0], .val (.bool false)], [.row kb []], []⟩)) (br (decide (((rdM da db dc (atC s i.toNat) 3).1.size : Int) > 24)) (R (some ⟨.tup [.agg [.ows 0], .val (.bool false)], [.row kb []], []⟩)) (br (decide (0 ≤ i ∧ i < (ys.length : Int))) (N2 (si27 da db dc x s d p b f n i 4 (updR kb ys i.toNat 6 [.string (rdM da db dc (atC s i.toNat) 3).1]))) False))) False) False := by kernel_rfl
theorem bi27_4 (L : Lp) (R : Option Res → Prop) (N N2 : St → Prop) (da db : List (Elem ks)) (dc : List (Elem kl)) (x : Int) (s : List (Elem kc)) (d p : List (Elem k3)) (b : Bool) (f : List (Elem ki)) (n : Int) (i : Int) (ys : List (Elem kb)) : evP E27 G27 L (lp27 8) (si27 da db dc x s d p b f n i 4 ys) (rkn27 L R 5 N 8 N2) =
    br (decide (0 ≤ i ∧ i < (s.length : Int))) (br (smD da db dc) (br ((rdM da db dc (atC s i.toNat) 4).2 == 2) (R (some ⟨.tup [.agg [.ows 0], .val (.bool false)], [.row kb []], []⟩)) (br (decide (((rdM da db dc (atC s i.toNat) 4).1.size : Int) > 24)) (R (some ⟨.tup [.agg [.ows 0], .val (.bool false)], [.row kb []], []⟩)) (br (decide (0 ≤ i ∧ i < (ys.length : Int))) (N2 (si27 da db dc x s d p b f n i 5 (updR kb ys i.toNat 7 [.string (rdM da db dc (atC s i.toNat) 4).1]))) False))) False) False := by kernel_rfl
theorem bi27_5 (L : Lp) (R : Option Res → Prop) (N N2 : St → Prop) (da db : List (Elem ks)) (dc : List (Elem kl)) (x : Int) (s : List (Elem kc)) (d p : List (Elem k3)) (b : Bool) (f : List (Elem ki)) (n : Int) (i : Int) (ys : List (Elem kb)) : evP E27 G27 L (lp27 8) (si27 da db dc x s d p b f n i 5 ys) (rkn27 L R 5 N 8 N2) =
    br (decide (0 ≤ i ∧ i < (s.length : Int))) (br (smD da db dc) (br ((rdM da db dc (atC s i.toNat) 5).2 == 2) (R (some ⟨.tup [.agg [.ows 0], .val (.bool false)], [.row kb []], []⟩)) (br (decide (((rdM da db dc (atC s i.toNat) 5).1.size : Int) > 24)) (R (some ⟨.tup [.agg [.ows 0], .val (.bool false)], [.row kb []], []⟩)) (br (decide (0 ≤ i ∧ i < (ys.length : Int))) (N2 (si27 da db dc x s d p b f n i 6 (updR kb ys i.toNat 8 [.string (rdM da db dc (atC s i.toNat) 5).1]))) False))) False) False := by kernel_rfl
theorem bi27_6 (L : Lp) (R : Option Res → Prop) (N N2 : St → Prop) (da db : List (Elem ks)) (dc : List (Elem kl)) (x : Int) (s : List (Elem kc)) (d p : List (Elem k3)) (b : Bool) (f : List (Elem ki)) (n : Int) (i : Int) (ys : List (Elem kb)) : evP E27 G27 L (lp27 8) (si27 da db dc x s d p b f n i 6 ys) (rkn27 L R 5 N 8 N2) =
    br (decide (0 ≤ i ∧ i < (s.length : Int))) (br (smD da db dc) (br ((rdM da db dc (atC s i.toNat) 6).2 == 2) (R (some ⟨.tup [.agg [.ows 0], .val (.bool false)], [.row kb []], []⟩)) (br (decide (((rdM da db dc (atC s i.toNat) 6).1.size : Int) > 24)) (R (some ⟨.tup [.agg [.ows 0], .val (.bool false)], [.row kb []], []⟩)) (br (decide (0 ≤ i ∧ i < (ys.length : Int))) (N2 (si27 da db dc x s d p b f n i 7 (updR kb ys i.toNat 9 [.string (rdM da db dc (atC s i.toNat) 6).1]))) False))) False) False := by kernel_rfl
theorem bi27_7 (L : Lp) (R : Option Res → Prop) (N N2 : St → Prop) (da db : List (Elem ks)) (dc : List (Elem kl)) (x : Int) (s : List (Elem kc)) (d p : List (Elem k3)) (b : Bool) (f : List (Elem ki)) (n : Int) (i : Int) (ys : List (Elem kb)) : evP E27 G27 L (lp27 8) (si27 da db dc x s d p b f n i 7 ys) (rkn27 L R 5 N 8 N2) =
    br (decide (0 ≤ i ∧ i < (s.length : Int))) (br (smD da db dc) (br ((rdM da db dc (atC s i.toNat) 7).2 == 2) (R (some ⟨.tup [.agg [.ows 0], .val (.bool false)], [.row kb []], []⟩)) (br (decide (((rdM da db dc (atC s i.toNat) 7).1.size : Int) > 24)) (R (some ⟨.tup [.agg [.ows 0], .val (.bool false)], [.row kb []], []⟩)) (br (decide (0 ≤ i ∧ i < (ys.length : Int))) (N2 (si27 da db dc x s d p b f n i 8 (updR kb ys i.toNat 10 [.string (rdM da db dc (atC s i.toNat) 7).1]))) False))) False) False := by kernel_rfl
theorem bi27_8 (L : Lp) (R : Option Res → Prop) (N N2 : St → Prop) (da db : List (Elem ks)) (dc : List (Elem kl)) (x : Int) (s : List (Elem kc)) (d p : List (Elem k3)) (b : Bool) (f : List (Elem ki)) (n : Int) (i : Int) (ys : List (Elem kb)) : evP E27 G27 L (lp27 8) (si27 da db dc x s d p b f n i 8 ys) (rkn27 L R 5 N 8 N2) = N (st27 da db dc x s d p b f n (IntKind.i64.wrap (i + 1)) ys) := by kernel_rfl
theorem h27 : G1Ok Tryz.prog 27 g27 := by
  intro args obs k h
  unfold g27 at h
  split at h
  · rename_i k da db dc us
    split at h
    rotate_left
    · exact h.elim
    rename_i c hc
    obtain rfl := coreOf_inv hc
    obtain ⟨x, s, d, p, b, f, n⟩ := c
    obtain ⟨hpp, h⟩ := br_and h
    rw [Bool.and_eq_true] at hpp
    obtain ⟨hD, hC⟩ := hpp
    have hC' := hC
    unfold smB' at hC'
    rw [Bool.and_eq_true] at hC'
    obtain ⟨hp, hcs⟩ := hC'
    have hl : s.length ≤ 1048576 := smCo_s hp
    refine ⟨_, ctr_fn okf hg27 Tryz.func27 (by kernel_rfl) (by kernel_rfl) (by kernel_rfl) fun C => ?_, h⟩
    show bodyP Ef G27 _ Tryz.f27 [.agg [.rsl ks da, .rsl ks db, .rsl kl dc], coreAV x s d p b f n] [] _
    rw [e27]
    refine br_t hD (br_not (fun h1 => ?_) (fun h1 => br_t hC (br_not (fun h2 => ?_) (fun h2 => br_t hp ?_))))
    · show _ = _
      rw [cbS_f da db dc (cb_d da db dc h1), cb_d da db dc h1]
    · show _ = _
      rw [cbS_f da db dc (cb_c da db dc h2), cb_c da db dc h2]
    have bad : ∀ i j, i < s.length → j < 8 → okM da db dc (atC s i) j = false → cbOk da db dc (x, s, d, p, b, f, n) = false := fun i j hi hj hh => cb_s da db dc (c := (x, s, d, p, b, f, n)) hi hj hh
    refine loopUp okf27 hg27 (fun i ys => st27 da db dc x s d p b f n i ys) s.length (fun i ys => ys = midB da db dc s i 0 ∧ ∀ q, q < i → ∀ j, j < 8 → okM da db dc (atC s q) j = true) (fun N i ys hi ⟨hy, hq⟩ next => ?_) (bkS s) ⟨(mid_0 da db dc s).symm, fun q hq => by omega⟩
    show evP E27 G27 _ (lp27 5) (st27 da db dc x s d p b f n i ys) (rk27 _ _ 5 _)
    rw [b27]
    refine br_dec (fun h3 => ?_) (fun h3 => ?_)
    rotate_left
    · have hk := cb_t da db dc (c := (x, s, d, p, b, f, n)) h1 h2 (fun q hq2 => hq q (by have : q < s.length := hq2; omega))
      show _ = _
      rw [cbS_t da db dc hk, hk, hy, mid_n da db dc s (by omega)]
    refine loopUp okf27 hg27 (fun j ys => si27 da db dc x s d p b f n i j ys) 8 (fun j ys => ys = midB da db dc s i j ∧ ∀ m, m < j → okM da db dc (atC s i) m = true) (fun N2 j zs hj ⟨hz, hm⟩ next2 => ?_) ys ⟨hy, fun m hm => by omega⟩
    have his : i < s.length := by omega
    have hzl : zs.length = s.length := by rw [hz, mid_len]
    have cs : j = 0 ∨ j = 1 ∨ j = 2 ∨ j = 3 ∨ j = 4 ∨ j = 5 ∨ j = 6 ∨ j = 7 ∨ j = 8 := by omega
    rcases cs with rfl | rfl | rfl | rfl | rfl | rfl | rfl | rfl | rfl
    · show evP E27 G27 _ (lp27 8) (si27 da db dc x s d p b f n i 0 zs) (rkn27 _ _ 5 N 8 _)
      rw [bi27_0, Int.toNat_natCast]
      refine br_yes ⟨by omega, by omega⟩ (br_t hD (br_intro (fun h4 => ?_) (fun h4 => br_dec (fun h5 => ?_) (fun h5 => br_yes ⟨by omega, by omega⟩ ?_))))
      · have hb := bad i 0 his (by omega) (okM_2 da db dc h4)
        show _ = _
        rw [cbS_f da db dc hb, hb]
      · have hb := bad i 0 his (by omega) (okM_l da db dc h5)
        show _ = _
        rw [cbS_f da db dc hb, hb]
      · refine next2 (by omega) _ ⟨?_, fun m hm2 => ?_⟩
        · rw [hz]
          exact mid_u da db dc s his rfl
        · by_cases e : m < 0
          · exact hm m e
          · obtain rfl : m = 0 := by omega
            exact okM_t da db dc h4 h5
    · show evP E27 G27 _ (lp27 8) (si27 da db dc x s d p b f n i 1 zs) (rkn27 _ _ 5 N 8 _)
      rw [bi27_1, Int.toNat_natCast]
      refine br_yes ⟨by omega, by omega⟩ (br_t hD (br_intro (fun h4 => ?_) (fun h4 => br_dec (fun h5 => ?_) (fun h5 => br_yes ⟨by omega, by omega⟩ ?_))))
      · have hb := bad i 1 his (by omega) (okM_2 da db dc h4)
        show _ = _
        rw [cbS_f da db dc hb, hb]
      · have hb := bad i 1 his (by omega) (okM_l da db dc h5)
        show _ = _
        rw [cbS_f da db dc hb, hb]
      · refine next2 (by omega) _ ⟨?_, fun m hm2 => ?_⟩
        · rw [hz]
          exact mid_u da db dc s his rfl
        · by_cases e : m < 1
          · exact hm m e
          · obtain rfl : m = 1 := by omega
            exact okM_t da db dc h4 h5
    · show evP E27 G27 _ (lp27 8) (si27 da db dc x s d p b f n i 2 zs) (rkn27 _ _ 5 N 8 _)
      rw [bi27_2, Int.toNat_natCast]
      refine br_yes ⟨by omega, by omega⟩ (br_t hD (br_intro (fun h4 => ?_) (fun h4 => br_dec (fun h5 => ?_) (fun h5 => br_yes ⟨by omega, by omega⟩ ?_))))
      · have hb := bad i 2 his (by omega) (okM_2 da db dc h4)
        show _ = _
        rw [cbS_f da db dc hb, hb]
      · have hb := bad i 2 his (by omega) (okM_l da db dc h5)
        show _ = _
        rw [cbS_f da db dc hb, hb]
      · refine next2 (by omega) _ ⟨?_, fun m hm2 => ?_⟩
        · rw [hz]
          exact mid_u da db dc s his rfl
        · by_cases e : m < 2
          · exact hm m e
          · obtain rfl : m = 2 := by omega
            exact okM_t da db dc h4 h5
    · show evP E27 G27 _ (lp27 8) (si27 da db dc x s d p b f n i 3 zs) (rkn27 _ _ 5 N 8 _)
      rw [bi27_3, Int.toNat_natCast]
      refine br_yes ⟨by omega, by omega⟩ (br_t hD (br_intro (fun h4 => ?_) (fun h4 => br_dec (fun h5 => ?_) (fun h5 => br_yes ⟨by omega, by omega⟩ ?_))))
      · have hb := bad i 3 his (by omega) (okM_2 da db dc h4)
        show _ = _
        rw [cbS_f da db dc hb, hb]
      · have hb := bad i 3 his (by omega) (okM_l da db dc h5)
        show _ = _
        rw [cbS_f da db dc hb, hb]
      · refine next2 (by omega) _ ⟨?_, fun m hm2 => ?_⟩
        · rw [hz]
          exact mid_u da db dc s his rfl
        · by_cases e : m < 3
          · exact hm m e
          · obtain rfl : m = 3 := by omega
            exact okM_t da db dc h4 h5
    · show evP E27 G27 _ (lp27 8) (si27 da db dc x s d p b f n i 4 zs) (rkn27 _ _ 5 N 8 _)
      rw [bi27_4, Int.toNat_natCast]
      refine br_yes ⟨by omega, by omega⟩ (br_t hD (br_intro (fun h4 => ?_) (fun h4 => br_dec (fun h5 => ?_) (fun h5 => br_yes ⟨by omega, by omega⟩ ?_))))
      · have hb := bad i 4 his (by omega) (okM_2 da db dc h4)
        show _ = _
        rw [cbS_f da db dc hb, hb]
      · have hb := bad i 4 his (by omega) (okM_l da db dc h5)
        show _ = _
        rw [cbS_f da db dc hb, hb]
      · refine next2 (by omega) _ ⟨?_, fun m hm2 => ?_⟩
        · rw [hz]
          exact mid_u da db dc s his rfl
        · by_cases e : m < 4
          · exact hm m e
          · obtain rfl : m = 4 := by omega
            exact okM_t da db dc h4 h5
    · show evP E27 G27 _ (lp27 8) (si27 da db dc x s d p b f n i 5 zs) (rkn27 _ _ 5 N 8 _)
      rw [bi27_5, Int.toNat_natCast]
      refine br_yes ⟨by omega, by omega⟩ (br_t hD (br_intro (fun h4 => ?_) (fun h4 => br_dec (fun h5 => ?_) (fun h5 => br_yes ⟨by omega, by omega⟩ ?_))))
      · have hb := bad i 5 his (by omega) (okM_2 da db dc h4)
        show _ = _
        rw [cbS_f da db dc hb, hb]
      · have hb := bad i 5 his (by omega) (okM_l da db dc h5)
        show _ = _
        rw [cbS_f da db dc hb, hb]
      · refine next2 (by omega) _ ⟨?_, fun m hm2 => ?_⟩
        · rw [hz]
          exact mid_u da db dc s his rfl
        · by_cases e : m < 5
          · exact hm m e
          · obtain rfl : m = 5 := by omega
            exact okM_t da db dc h4 h5
    · show evP E27 G27 _ (lp27 8) (si27 da db dc x s d p b f n i 6 zs) (rkn27 _ _ 5 N 8 _)
      rw [bi27_6, Int.toNat_natCast]
      refine br_yes ⟨by omega, by omega⟩ (br_t hD (br_intro (fun h4 => ?_) (fun h4 => br_dec (fun h5 => ?_) (fun h5 => br_yes ⟨by omega, by omega⟩ ?_))))
      · have hb := bad i 6 his (by omega) (okM_2 da db dc h4)
        show _ = _
        rw [cbS_f da db dc hb, hb]
      · have hb := bad i 6 his (by omega) (okM_l da db dc h5)
        show _ = _
        rw [cbS_f da db dc hb, hb]
      · refine next2 (by omega) _ ⟨?_, fun m hm2 => ?_⟩
        · rw [hz]
          exact mid_u da db dc s his rfl
        · by_cases e : m < 6
          · exact hm m e
          · obtain rfl : m = 6 := by omega
            exact okM_t da db dc h4 h5
    · show evP E27 G27 _ (lp27 8) (si27 da db dc x s d p b f n i 7 zs) (rkn27 _ _ 5 N 8 _)
      rw [bi27_7, Int.toNat_natCast]
      refine br_yes ⟨by omega, by omega⟩ (br_t hD (br_intro (fun h4 => ?_) (fun h4 => br_dec (fun h5 => ?_) (fun h5 => br_yes ⟨by omega, by omega⟩ ?_))))
      · have hb := bad i 7 his (by omega) (okM_2 da db dc h4)
        show _ = _
        rw [cbS_f da db dc hb, hb]
      · have hb := bad i 7 his (by omega) (okM_l da db dc h5)
        show _ = _
        rw [cbS_f da db dc hb, hb]
      · refine next2 (by omega) _ ⟨?_, fun m hm2 => ?_⟩
        · rw [hz]
          exact mid_u da db dc s his rfl
        · by_cases e : m < 7
          · exact hm m e
          · obtain rfl : m = 7 := by omega
            exact okM_t da db dc h4 h5
    · show evP E27 G27 _ (lp27 8) (si27 da db dc x s d p b f n i 8 zs) (rkn27 _ _ 5 N 8 _)
      rw [bi27_8, wrap_id (n := (i : Int) + 1) (by omega) (by omega)]
      refine next (by omega) _ ⟨by rw [hz, mid_s], fun q hq2 j hj2 => ?_⟩
      by_cases e : q < i
      · exact hq q e j hj2
      · obtain rfl : q = i := by omega
        exact hm j hj2
  · exact h.elim
noncomputable def E29 : Env := E0.of Tryz.f29
noncomputable def G29 : Gk := gk [(84, g84), (58, g39), (85, g80), (48, g81)]
noncomputable def lp29 (n : Nat) : Code := (loopOf n (codeOf Tryz.f29)).getD .skip
noncomputable def ct29 (L : Lp) (R : Option Res → Prop) (n : Nat) : Kt := contOf E29 G29 L n (codeOf Tryz.f29) (endK E29 Tryz.f29.results.toList R)
noncomputable def rk29 (L : Lp) (R : Option Res → Prop) (n : Nat) (N : St → Prop) : Kt := rk (jof E29 (lp29 n)) N (ct29 L R n)
noncomputable def rkn29 (L : Lp) (R : Option Res → Prop) (n : Nat) (N : St → Prop) (m : Nat) (N2 : St → Prop) : Kt := rk (jof E29 (lp29 m)) N2 (contOf E29 G29 L m (lp29 n) (rk29 L R n N))
noncomputable def LOOPN29 (L : Lp) (R : Option Res → Prop) (n : Nat) (N : St → Prop) (m : Nat) (st : St) : Prop := L (lp29 m) st (contOf E29 G29 L m (lp29 n) (rk29 L R n N))
noncomputable def LOOP29 (L : Lp) (R : Option Res → Prop) (n : Nat) (st : St) : Prop := L (lp29 n) st (ct29 L R n)
theorem hg29 : HG Tryz.prog G29 := (hg_cons h84 (hg_cons h58 (hg_cons h85 (hg_cons h48 hg_nil))))
theorem okf29 : Ok Tryz.prog E29 := ok0.of Tryz.f29
theorem e29 (L : Lp) (R : Option Res → Prop) (da db : List (Elem ks)) (dc : List (Elem kl)) (x : Int) (s : List (Elem kc)) (d p : List (Elem k3)) (b : Bool) (f : List (Elem ki)) (n : Int) : (bodyP Ef G29 L Tryz.f29 [.agg [.rsl ks da, .rsl ks db, .rsl kl dc], coreAV x s d p b f n] [] R) = (
    br (smD da db dc) (br (!dkOk da db dc) (R (some { av := AV.tup [AV.agg [AV.ows 0], vB false], obs := [AO.row kb []], outs := [] })) (br (smB' (x, s, d, p, b, f, n)) (br (!coreOk (x, s, d, p, b, f, n).fst (x, s, d, p, b, f, n).snd.fst (x, s, d, p, b, f, n).snd.snd.fst (x, s, d, p, b, f, n).snd.snd.snd.fst (x, s, d, p, b, f, n).snd.snd.snd.snd.snd.fst (x, s, d, p, b, f, n).snd.snd.snd.snd.snd.snd) (R (some { av := AV.tup [AV.agg [AV.ows 0], vB false], obs := [AO.row kb []], outs := [] })) (br (smCo (x, s, d, p, b, f, n)) (LOOP29 L R 5 { tm := [vJ, vJ, AV.ptr 0 0, vJ, AV.ptr 1 0, vJ, AV.ptr 3 0, vJ, vJ, vJ, vJ, vJ, vJ, vJ, vJ, vJ, vJ, vJ, vJ, vJ, vJ, vJ, vJ, vJ, vJ, AV.rsl kc s, vI (↑s.length : Int), vI 0, vJ, vJ, vJ, vJ, vJ, vJ, vJ, vJ, vJ, vJ, vJ, vJ, vJ, vJ, vJ, vJ, vJ, vJ, vJ, vJ, vJ, vJ, vJ, vJ, vJ, vJ, vJ, vJ, vJ, vJ, vJ, vJ, vJ, vJ, vJ], ob := [(0, AO.box [AV.rsl ks da, AV.rsl ks db, AV.rsl kl dc]), (1, AO.box [AV.ows 2]), (2, AO.row kb []), (3, AO.box [AV.ows 4]), (4, AO.row kb (bkS (x, s, d, p, b, f, n).snd.fst))], nx := 1000000, ps := [] }) False)) False)) False) := by kernel_rfl
def st29 (da db : List (Elem ks)) (dc : List (Elem kl)) (s : List (Elem kc)) (i : Int) (ys : List (Elem kb)) : St :=  ⟨[vJ, vJ, AV.ptr 0 0, vJ, AV.ptr 1 0, vJ, AV.ptr 3 0, vJ, vJ, vJ, vJ, vJ, vJ, vJ, vJ, vJ, vJ, vJ, vJ, vJ, vJ, vJ, vJ, vJ, vJ, AV.rsl kc s, vI (↑s.length : Int), .val (.int .i64 i), vJ, vJ, vJ, vJ, vJ, vJ, vJ, vJ, vJ, vJ, vJ, vJ, vJ, vJ, vJ, vJ, vJ, vJ, vJ, vJ, vJ, vJ, vJ, vJ, vJ, vJ, vJ, vJ, vJ, vJ, vJ, vJ, vJ, vJ, vJ], [(0, AO.box [AV.rsl ks da, AV.rsl ks db, AV.rsl kl dc]), (1, AO.box [AV.ows 2]), (2, AO.row kb []), (3, AO.box [AV.ows 4]), (4, .row kb ys)], 1000000, []⟩
theorem b29 (L : Lp) (R : Option Res → Prop) (N : St → Prop) (da db : List (Elem ks)) (dc : List (Elem kl)) (s : List (Elem kc)) (i : Int) (ys : List (Elem kb)) : (evP E29 G29 L (lp29 5) (st29 da db dc s i ys) (rk29 L R 5 N)) = (
    br (decide (i < (↑s.length : Int))) (br (decide (0 ≤ i ∧ i < (↑s.length : Int))) (LOOPN29 L R 5 N 8 { tm := [vJ, vJ, AV.ptr 0 0, vJ, AV.ptr 1 0, vJ, AV.ptr 3 0, vI i, AV.ptr 5 0, vJ, vJ, vJ, vJ, vJ, vJ, vJ, vJ, vJ, vJ, vJ, vJ, vJ, vJ, vJ, vJ, AV.rsl kc s, vI (↑s.length : Int), vI i, vB (decide (i < (↑s.length : Int))), vI i, AV.rel [Value.string (s.getD i.toNat (edflt kc)).fst, Value.int IntKind.i64 (s.getD i.toNat (edflt kc)).snd.fst, Value.string (s.getD i.toNat (edflt kc)).snd.snd.fst, Value.int IntKind.i64 (s.getD i.toNat (edflt kc)).snd.snd.snd.fst, Value.int IntKind.i64 (s.getD i.toNat (edflt kc)).snd.snd.snd.snd.fst, Value.int IntKind.i64 (s.getD i.toNat (edflt kc)).snd.snd.snd.snd.snd.fst, Value.int IntKind.i64 (s.getD i.toNat (edflt kc)).snd.snd.snd.snd.snd.snd.fst, Value.int IntKind.i64 (s.getD i.toNat (edflt kc)).snd.snd.snd.snd.snd.snd.snd.fst, Value.int IntKind.i64 (s.getD i.toNat (edflt kc)).snd.snd.snd.snd.snd.snd.snd.snd.fst, Value.int IntKind.i64 (s.getD i.toNat (edflt kc)).snd.snd.snd.snd.snd.snd.snd.snd.snd.fst, Value.int IntKind.i64 (s.getD i.toNat (edflt kc)).snd.snd.snd.snd.snd.snd.snd.snd.snd.snd.fst, Value.int IntKind.i64 (s.getD i.toNat (edflt kc)).snd.snd.snd.snd.snd.snd.snd.snd.snd.snd.snd.fst, Value.int IntKind.i64 (s.getD i.toNat (edflt kc)).snd.snd.snd.snd.snd.snd.snd.snd.snd.snd.snd.snd.fst, Value.int IntKind.i64 (s.getD i.toNat (edflt kc)).snd.snd.snd.snd.snd.snd.snd.snd.snd.snd.snd.snd.snd.fst, Value.int IntKind.i64 (s.getD i.toNat (edflt kc)).snd.snd.snd.snd.snd.snd.snd.snd.snd.snd.snd.snd.snd.snd.fst, Value.int IntKind.i64 (s.getD i.toNat (edflt kc)).snd.snd.snd.snd.snd.snd.snd.snd.snd.snd.snd.snd.snd.snd.snd.fst, Value.int IntKind.i64 (s.getD i.toNat (edflt kc)).snd.snd.snd.snd.snd.snd.snd.snd.snd.snd.snd.snd.snd.snd.snd.snd.fst, Value.int IntKind.i64 (s.getD i.toNat (edflt kc)).snd.snd.snd.snd.snd.snd.snd.snd.snd.snd.snd.snd.snd.snd.snd.snd.snd.fst, Value.int IntKind.i64 (s.getD i.toNat (edflt kc)).snd.snd.snd.snd.snd.snd.snd.snd.snd.snd.snd.snd.snd.snd.snd.snd.snd.snd.fst, Value.int IntKind.i64 (s.getD i.toNat (edflt kc)).snd.snd.snd.snd.snd.snd.snd.snd.snd.snd.snd.snd.snd.snd.snd.snd.snd.snd.snd.fst, Value.int IntKind.i64 (s.getD i.toNat (edflt kc)).snd.snd.snd.snd.snd.snd.snd.snd.snd.snd.snd.snd.snd.snd.snd.snd.snd.snd.snd.snd.fst, Value.int IntKind.i64 (s.getD i.toNat (edflt kc)).snd.snd.snd.snd.snd.snd.snd.snd.snd.snd.snd.snd.snd.snd.snd.snd.snd.snd.snd.snd.snd.fst, Value.int IntKind.i64 (s.getD i.toNat (edflt kc)).snd.snd.snd.snd.snd.snd.snd.snd.snd.snd.snd.snd.snd.snd.snd.snd.snd.snd.snd.snd.snd.snd.fst, Value.int IntKind.i64 (s.getD i.toNat (edflt kc)).snd.snd.snd.snd.snd.snd.snd.snd.snd.snd.snd.snd.snd.snd.snd.snd.snd.snd.snd.snd.snd.snd.snd.fst, Value.int IntKind.i64 (s.getD i.toNat (edflt kc)).snd.snd.snd.snd.snd.snd.snd.snd.snd.snd.snd.snd.snd.snd.snd.snd.snd.snd.snd.snd.snd.snd.snd.snd.fst, Value.int IntKind.i64 (s.getD i.toNat (edflt kc)).snd.snd.snd.snd.snd.snd.snd.snd.snd.snd.snd.snd.snd.snd.snd.snd.snd.snd.snd.snd.snd.snd.snd.snd.snd.fst, Value.int IntKind.i64 (s.getD i.toNat (edflt kc)).snd.snd.snd.snd.snd.snd.snd.snd.snd.snd.snd.snd.snd.snd.snd.snd.snd.snd.snd.snd.snd.snd.snd.snd.snd.snd.fst, Value.int IntKind.i64 (s.getD i.toNat (edflt kc)).snd.snd.snd.snd.snd.snd.snd.snd.snd.snd.snd.snd.snd.snd.snd.snd.snd.snd.snd.snd.snd.snd.snd.snd.snd.snd.snd.fst, Value.int IntKind.i64 (s.getD i.toNat (edflt kc)).snd.snd.snd.snd.snd.snd.snd.snd.snd.snd.snd.snd.snd.snd.snd.snd.snd.snd.snd.snd.snd.snd.snd.snd.snd.snd.snd.snd.fst, Value.int IntKind.i64 (s.getD i.toNat (edflt kc)).snd.snd.snd.snd.snd.snd.snd.snd.snd.snd.snd.snd.snd.snd.snd.snd.snd.snd.snd.snd.snd.snd.snd.snd.snd.snd.snd.snd.snd.fst, Value.bool (s.getD i.toNat (edflt kc)).snd.snd.snd.snd.snd.snd.snd.snd.snd.snd.snd.snd.snd.snd.snd.snd.snd.snd.snd.snd.snd.snd.snd.snd.snd.snd.snd.snd.snd.snd.fst], AV.agg (setK (s.getD i.toNat (edflt kc))), AV.ptr 5 3, AV.agg (mapK (s.getD i.toNat (edflt kc))), vI 0, vJ, vJ, vJ, vJ, vJ, vJ, vJ, vJ, vJ, vJ, vJ, vJ, vJ, vJ, vJ, vJ, vJ, vJ, vJ, vJ, vJ, vJ, vJ, vJ, vJ, vJ, vJ, vJ], ob := [(0, AO.box [AV.rsl ks da, AV.rsl ks db, AV.rsl kl dc]), (1, AO.box [AV.ows 2]), (2, AO.row kb []), (3, AO.box [AV.ows 4]), (4, AO.row kb ys), (5, AO.box (setK (s.getD i.toNat (edflt kc))))], nx := 1000000, ps := [] }) False) (R (some { av := AV.tup [AV.agg [AV.ows 0], vB true], obs := [AO.row kb ys], outs := [] }))) := by kernel_rfl
def si29 (da db : List (Elem ks)) (dc : List (Elem kl)) (s : List (Elem kc)) (i j : Int) (ys : List (Elem kb)) : St :=  ⟨[vJ, vJ, AV.ptr 0 0, vJ, AV.ptr 1 0, vJ, AV.ptr 3 0, .val (.int .i64 i), AV.ptr 5 0, vJ, vJ, vJ, vJ, vJ, vJ, vJ, vJ, vJ, vJ, vJ, vJ, vJ, vJ, vJ, vJ, AV.rsl kc s, vI (↑s.length : Int), .val (.int .i64 i), vB (decide (i < (↑s.length : Int))), vI i, AV.rel [Value.string (s.getD i.toNat (edflt kc)).fst, Value.int IntKind.i64 (s.getD i.toNat (edflt kc)).snd.fst, Value.string (s.getD i.toNat (edflt kc)).snd.snd.fst, Value.int IntKind.i64 (s.getD i.toNat (edflt kc)).snd.snd.snd.fst, Value.int IntKind.i64 (s.getD i.toNat (edflt kc)).snd.snd.snd.snd.fst, Value.int IntKind.i64 (s.getD i.toNat (edflt kc)).snd.snd.snd.snd.snd.fst, Value.int IntKind.i64 (s.getD i.toNat (edflt kc)).snd.snd.snd.snd.snd.snd.fst, Value.int IntKind.i64 (s.getD i.toNat (edflt kc)).snd.snd.snd.snd.snd.snd.snd.fst, Value.int IntKind.i64 (s.getD i.toNat (edflt kc)).snd.snd.snd.snd.snd.snd.snd.snd.fst, Value.int IntKind.i64 (s.getD i.toNat (edflt kc)).snd.snd.snd.snd.snd.snd.snd.snd.snd.fst, Value.int IntKind.i64 (s.getD i.toNat (edflt kc)).snd.snd.snd.snd.snd.snd.snd.snd.snd.snd.fst, Value.int IntKind.i64 (s.getD i.toNat (edflt kc)).snd.snd.snd.snd.snd.snd.snd.snd.snd.snd.snd.fst, Value.int IntKind.i64 (s.getD i.toNat (edflt kc)).snd.snd.snd.snd.snd.snd.snd.snd.snd.snd.snd.snd.fst, Value.int IntKind.i64 (s.getD i.toNat (edflt kc)).snd.snd.snd.snd.snd.snd.snd.snd.snd.snd.snd.snd.snd.fst, Value.int IntKind.i64 (s.getD i.toNat (edflt kc)).snd.snd.snd.snd.snd.snd.snd.snd.snd.snd.snd.snd.snd.snd.fst, Value.int IntKind.i64 (s.getD i.toNat (edflt kc)).snd.snd.snd.snd.snd.snd.snd.snd.snd.snd.snd.snd.snd.snd.snd.fst, Value.int IntKind.i64 (s.getD i.toNat (edflt kc)).snd.snd.snd.snd.snd.snd.snd.snd.snd.snd.snd.snd.snd.snd.snd.snd.fst, Value.int IntKind.i64 (s.getD i.toNat (edflt kc)).snd.snd.snd.snd.snd.snd.snd.snd.snd.snd.snd.snd.snd.snd.snd.snd.snd.fst, Value.int IntKind.i64 (s.getD i.toNat (edflt kc)).snd.snd.snd.snd.snd.snd.snd.snd.snd.snd.snd.snd.snd.snd.snd.snd.snd.snd.fst, Value.int IntKind.i64 (s.getD i.toNat (edflt kc)).snd.snd.snd.snd.snd.snd.snd.snd.snd.snd.snd.snd.snd.snd.snd.snd.snd.snd.snd.fst, Value.int IntKind.i64 (s.getD i.toNat (edflt kc)).snd.snd.snd.snd.snd.snd.snd.snd.snd.snd.snd.snd.snd.snd.snd.snd.snd.snd.snd.snd.fst, Value.int IntKind.i64 (s.getD i.toNat (edflt kc)).snd.snd.snd.snd.snd.snd.snd.snd.snd.snd.snd.snd.snd.snd.snd.snd.snd.snd.snd.snd.snd.fst, Value.int IntKind.i64 (s.getD i.toNat (edflt kc)).snd.snd.snd.snd.snd.snd.snd.snd.snd.snd.snd.snd.snd.snd.snd.snd.snd.snd.snd.snd.snd.snd.fst, Value.int IntKind.i64 (s.getD i.toNat (edflt kc)).snd.snd.snd.snd.snd.snd.snd.snd.snd.snd.snd.snd.snd.snd.snd.snd.snd.snd.snd.snd.snd.snd.snd.fst, Value.int IntKind.i64 (s.getD i.toNat (edflt kc)).snd.snd.snd.snd.snd.snd.snd.snd.snd.snd.snd.snd.snd.snd.snd.snd.snd.snd.snd.snd.snd.snd.snd.snd.fst, Value.int IntKind.i64 (s.getD i.toNat (edflt kc)).snd.snd.snd.snd.snd.snd.snd.snd.snd.snd.snd.snd.snd.snd.snd.snd.snd.snd.snd.snd.snd.snd.snd.snd.snd.fst, Value.int IntKind.i64 (s.getD i.toNat (edflt kc)).snd.snd.snd.snd.snd.snd.snd.snd.snd.snd.snd.snd.snd.snd.snd.snd.snd.snd.snd.snd.snd.snd.snd.snd.snd.snd.fst, Value.int IntKind.i64 (s.getD i.toNat (edflt kc)).snd.snd.snd.snd.snd.snd.snd.snd.snd.snd.snd.snd.snd.snd.snd.snd.snd.snd.snd.snd.snd.snd.snd.snd.snd.snd.snd.fst, Value.int IntKind.i64 (s.getD i.toNat (edflt kc)).snd.snd.snd.snd.snd.snd.snd.snd.snd.snd.snd.snd.snd.snd.snd.snd.snd.snd.snd.snd.snd.snd.snd.snd.snd.snd.snd.snd.fst, Value.int IntKind.i64 (s.getD i.toNat (edflt kc)).snd.snd.snd.snd.snd.snd.snd.snd.snd.snd.snd.snd.snd.snd.snd.snd.snd.snd.snd.snd.snd.snd.snd.snd.snd.snd.snd.snd.snd.fst, Value.bool (s.getD i.toNat (edflt kc)).snd.snd.snd.snd.snd.snd.snd.snd.snd.snd.snd.snd.snd.snd.snd.snd.snd.snd.snd.snd.snd.snd.snd.snd.snd.snd.snd.snd.snd.snd.fst], AV.agg (setK (s.getD i.toNat (edflt kc))), AV.ptr 5 3, AV.agg (mapK (s.getD i.toNat (edflt kc))), .val (.int .i64 j), vJ, vJ, vJ, vJ, vJ, vJ, vJ, vJ, vJ, vJ, vJ, vJ, vJ, vJ, vJ, vJ, vJ, vJ, vJ, vJ, vJ, vJ, vJ, vJ, vJ, vJ, vJ, vJ], [(0, AO.box [AV.rsl ks da, AV.rsl ks db, AV.rsl kl dc]), (1, AO.box [AV.ows 2]), (2, AO.row kb []), (3, AO.box [AV.ows 4]), (4, .row kb ys), (5, AO.box (setK (s.getD i.toNat (edflt kc))))], 1000000, []⟩
theorem bi29_0 (L : Lp) (R : Option Res → Prop) (N N2 : St → Prop) (da db : List (Elem ks)) (dc : List (Elem kl)) (s : List (Elem kc)) (i : Int) (ys : List (Elem kb)) : evP E29 G29 L (lp29 8) (si29 da db dc s i 0 ys) (rkn29 L R 5 N 8 N2) =
    br (smD da db dc) (br ((rdM da db dc (atC s i.toNat) 0).2 == 2) (R (some ⟨.tup [.agg [.ows 0], .val (.bool false)], [.row kb []], []⟩)) (br (decide (((rdM da db dc (atC s i.toNat) 0).1.size : Int) > 24)) (R (some ⟨.tup [.agg [.ows 0], .val (.bool false)], [.row kb []], []⟩)) (br (decide (0 ≤ i ∧ i < (ys.length : Int))) (N2 (si29 da db dc s i 1 (updR kb ys i.toNat 3 [.string (rdM da db dc (atC s i.toNat) 0).1]))) False))) False := by kernel_rfl
theorem bi29_1 (L : Lp) (R : Option Res → Prop) (N N2 : St → Prop) (da db : List (Elem ks)) (dc : List (Elem kl)) (s : List (Elem kc)) (i : Int) (ys : List (Elem kb)) : evP E29 G29 L (lp29 8) (si29 da db dc s i 1 ys) (rkn29 L R 5 N 8 N2) =
    br (smD da db dc) (br ((rdM da db dc (atC s i.toNat) 1).2 == 2) (R (some ⟨.tup [.agg [.ows 0], .val (.bool false)], [.row kb []], []⟩)) (br (decide (((rdM da db dc (atC s i.toNat) 1).1.size : Int) > 24)) (R (some ⟨.tup [.agg [.ows 0], .val (.bool false)], [.row kb []], []⟩)) (br (decide (0 ≤ i ∧ i < (ys.length : Int))) (N2 (si29 da db dc s i 2 (updR kb ys i.toNat 4 [.string (rdM da db dc (atC s i.toNat) 1).1]))) False))) False := by kernel_rfl
theorem bi29_2 (L : Lp) (R : Option Res → Prop) (N N2 : St → Prop) (da db : List (Elem ks)) (dc : List (Elem kl)) (s : List (Elem kc)) (i : Int) (ys : List (Elem kb)) : evP E29 G29 L (lp29 8) (si29 da db dc s i 2 ys) (rkn29 L R 5 N 8 N2) =
    br (smD da db dc) (br ((rdM da db dc (atC s i.toNat) 2).2 == 2) (R (some ⟨.tup [.agg [.ows 0], .val (.bool false)], [.row kb []], []⟩)) (br (decide (((rdM da db dc (atC s i.toNat) 2).1.size : Int) > 24)) (R (some ⟨.tup [.agg [.ows 0], .val (.bool false)], [.row kb []], []⟩)) (br (decide (0 ≤ i ∧ i < (ys.length : Int))) (N2 (si29 da db dc s i 3 (updR kb ys i.toNat 5 [.string (rdM da db dc (atC s i.toNat) 2).1]))) False))) False := by kernel_rfl
theorem bi29_3 (L : Lp) (R : Option Res → Prop) (N N2 : St → Prop) (da db : List (Elem ks)) (dc : List (Elem kl)) (s : List (Elem kc)) (i : Int) (ys : List (Elem kb)) : evP E29 G29 L (lp29 8) (si29 da db dc s i 3 ys) (rkn29 L R 5 N 8 N2) =
    br (smD da db dc) (br ((rdM da db dc (atC s i.toNat) 3).2 == 2) (R (some ⟨.tup [.agg [.ows 0], .val (.bool false)], [.row kb []], []⟩)) (br (decide (((rdM da db dc (atC s i.toNat) 3).1.size : Int) > 24)) (R (some ⟨.tup [.agg [.ows 0], .val (.bool false)], [.row kb []], []⟩)) (br (decide (0 ≤ i ∧ i < (ys.length : Int))) (N2 (si29 da db dc s i 4 (updR kb ys i.toNat 6 [.string (rdM da db dc (atC s i.toNat) 3).1]))) False))) False := by kernel_rfl
theorem bi29_4 (L : Lp) (R : Option Res → Prop) (N N2 : St → Prop) (da db : List (Elem ks)) (dc : List (Elem kl)) (s : List (Elem kc)) (i : Int) (ys : List (Elem kb)) : evP E29 G29 L (lp29 8) (si29 da db dc s i 4 ys) (rkn29 L R 5 N 8 N2) =
    br (smD da db dc) (br ((rdM da db dc (atC s i.toNat) 4).2 == 2) (R (some ⟨.tup [.agg [.ows 0], .val (.bool false)], [.row kb []], []⟩)) (br (decide (((rdM da db dc (atC s i.toNat) 4).1.size : Int) > 24)) (R (some ⟨.tup [.agg [.ows 0], .val (.bool false)], [.row kb []], []⟩)) (br (decide (0 ≤ i ∧ i < (ys.length : Int))) (N2 (si29 da db dc s i 5 (updR kb ys i.toNat 7 [.string (rdM da db dc (atC s i.toNat) 4).1]))) False))) False := by kernel_rfl
theorem bi29_5 (L : Lp) (R : Option Res → Prop) (N N2 : St → Prop) (da db : List (Elem ks)) (dc : List (Elem kl)) (s : List (Elem kc)) (i : Int) (ys : List (Elem kb)) : evP E29 G29 L (lp29 8) (si29 da db dc s i 5 ys) (rkn29 L R 5 N 8 N2) =
    br (smD da db dc) (br ((rdM da db dc (atC s i.toNat) 5).2 == 2) (R (some ⟨.tup [.agg [.ows 0], .val (.bool false)], [.row kb []], []⟩)) (br (decide (((rdM da db dc (atC s i.toNat) 5).1.size : Int) > 24)) (R (some ⟨.tup [.agg [.ows 0], .val (.bool false)], [.row kb []], []⟩)) (br (decide (0 ≤ i ∧ i < (ys.length : Int))) (N2 (si29 da db dc s i 6 (updR kb ys i.toNat 8 [.string (rdM da db dc (atC s i.toNat) 5).1]))) False))) False := by kernel_rfl
theorem bi29_6 (L : Lp) (R : Option Res → Prop) (N N2 : St → Prop) (da db : List (Elem ks)) (dc : List (Elem kl)) (s : List (Elem kc)) (i : Int) (ys : List (Elem kb)) : evP E29 G29 L (lp29 8) (si29 da db dc s i 6 ys) (rkn29 L R 5 N 8 N2) =
    br (smD da db dc) (br ((rdM da db dc (atC s i.toNat) 6).2 == 2) (R (some ⟨.tup [.agg [.ows 0], .val (.bool false)], [.row kb []], []⟩)) (br (decide (((rdM da db dc (atC s i.toNat) 6).1.size : Int) > 24)) (R (some ⟨.tup [.agg [.ows 0], .val (.bool false)], [.row kb []], []⟩)) (br (decide (0 ≤ i ∧ i < (ys.length : Int))) (N2 (si29 da db dc s i 7 (updR kb ys i.toNat 9 [.string (rdM da db dc (atC s i.toNat) 6).1]))) False))) False := by kernel_rfl
theorem bi29_7 (L : Lp) (R : Option Res → Prop) (N N2 : St → Prop) (da db : List (Elem ks)) (dc : List (Elem kl)) (s : List (Elem kc)) (i : Int) (ys : List (Elem kb)) : evP E29 G29 L (lp29 8) (si29 da db dc s i 7 ys) (rkn29 L R 5 N 8 N2) =
    br (smD da db dc) (br ((rdM da db dc (atC s i.toNat) 7).2 == 2) (R (some ⟨.tup [.agg [.ows 0], .val (.bool false)], [.row kb []], []⟩)) (br (decide (((rdM da db dc (atC s i.toNat) 7).1.size : Int) > 24)) (R (some ⟨.tup [.agg [.ows 0], .val (.bool false)], [.row kb []], []⟩)) (br (decide (0 ≤ i ∧ i < (ys.length : Int))) (N2 (si29 da db dc s i 8 (updR kb ys i.toNat 10 [.string (rdM da db dc (atC s i.toNat) 7).1]))) False))) False := by kernel_rfl
theorem bi29_8 (L : Lp) (R : Option Res → Prop) (N N2 : St → Prop) (da db : List (Elem ks)) (dc : List (Elem kl)) (s : List (Elem kc)) (i : Int) (ys : List (Elem kb)) : evP E29 G29 L (lp29 8) (si29 da db dc s i 8 ys) (rkn29 L R 5 N 8 N2) = N (st29 da db dc s (IntKind.i64.wrap (i + 1)) ys) := by kernel_rfl
theorem h29 : G1Ok Tryz.prog 29 g27 := by
  intro args obs k h
  unfold g27 at h
  split at h
  · rename_i k da db dc us
    split at h
    rotate_left
    · exact h.elim
    rename_i c hc
    obtain rfl := coreOf_inv hc
    obtain ⟨x, s, d, p, b, f, n⟩ := c
    obtain ⟨hpp, h⟩ := br_and h
    rw [Bool.and_eq_true] at hpp
    obtain ⟨hD, hC⟩ := hpp
    have hC' := hC
    unfold smB' at hC'
    rw [Bool.and_eq_true] at hC'
    obtain ⟨hp, hcs⟩ := hC'
    have hl : s.length ≤ 1048576 := smCo_s hp
    refine ⟨_, ctr_fn okf hg29 Tryz.func29 (by kernel_rfl) (by kernel_rfl) (by kernel_rfl) fun C => ?_, h⟩
    show bodyP Ef G29 _ Tryz.f29 [.agg [.rsl ks da, .rsl ks db, .rsl kl dc], coreAV x s d p b f n] [] _
    rw [e29]
    refine br_t hD (br_not (fun h1 => ?_) (fun h1 => br_t hC (br_not (fun h2 => ?_) (fun h2 => br_t hp ?_))))
    · show _ = _
      rw [cbS_f da db dc (cb_d da db dc h1), cb_d da db dc h1]
    · show _ = _
      rw [cbS_f da db dc (cb_c da db dc h2), cb_c da db dc h2]
    have bad : ∀ i j, i < s.length → j < 8 → okM da db dc (atC s i) j = false → cbOk da db dc (x, s, d, p, b, f, n) = false := fun i j hi hj hh => cb_s da db dc (c := (x, s, d, p, b, f, n)) hi hj hh
    refine loopUp okf29 hg29 (fun i ys => st29 da db dc s i ys) s.length (fun i ys => ys = midB da db dc s i 0 ∧ ∀ q, q < i → ∀ j, j < 8 → okM da db dc (atC s q) j = true) (fun N i ys hi ⟨hy, hq⟩ next => ?_) (bkS s) ⟨(mid_0 da db dc s).symm, fun q hq => by omega⟩
    show evP E29 G29 _ (lp29 5) (st29 da db dc s i ys) (rk29 _ _ 5 _)
    rw [b29]
    refine br_dec (fun h3 => br_yes ⟨by omega, h3⟩ ?_) (fun h3 => ?_)
    rotate_left
    · have hk := cb_t da db dc (c := (x, s, d, p, b, f, n)) h1 h2 (fun q hq2 => hq q (by have : q < s.length := hq2; omega))
      show _ = _
      rw [cbS_t da db dc hk, hk, hy, mid_n da db dc s (by omega)]
    refine loopUp okf29 hg29 (fun j ys => si29 da db dc s i j ys) 8 (fun j ys => ys = midB da db dc s i j ∧ ∀ m, m < j → okM da db dc (atC s i) m = true) (fun N2 j zs hj ⟨hz, hm⟩ next2 => ?_) ys ⟨hy, fun m hm => by omega⟩
    have his : i < s.length := by omega
    have hzl : zs.length = s.length := by rw [hz, mid_len]
    have cs : j = 0 ∨ j = 1 ∨ j = 2 ∨ j = 3 ∨ j = 4 ∨ j = 5 ∨ j = 6 ∨ j = 7 ∨ j = 8 := by omega
    rcases cs with rfl | rfl | rfl | rfl | rfl | rfl | rfl | rfl | rfl
    · show evP E29 G29 _ (lp29 8) (si29 da db dc s i 0 zs) (rkn29 _ _ 5 N 8 _)
      rw [bi29_0, Int.toNat_natCast]
      refine (br_t hD (br_intro (fun h4 => ?_) (fun h4 => br_dec (fun h5 => ?_) (fun h5 => br_yes ⟨by omega, by omega⟩ ?_))))
      · have hb := bad i 0 his (by omega) (okM_2 da db dc h4)
        show _ = _
        rw [cbS_f da db dc hb, hb]
      · have hb := bad i 0 his (by omega) (okM_l da db dc h5)
        show _ = _
        rw [cbS_f da db dc hb, hb]
      · refine next2 (by omega) _ ⟨?_, fun m hm2 => ?_⟩
        · rw [hz]
          exact mid_u da db dc s his rfl
        · by_cases e : m < 0
          · exact hm m e
          · obtain rfl : m = 0 := by omega
            exact okM_t da db dc h4 h5
    · show evP E29 G29 _ (lp29 8) (si29 da db dc s i 1 zs) (rkn29 _ _ 5 N 8 _)
      rw [bi29_1, Int.toNat_natCast]
      refine (br_t hD (br_intro (fun h4 => ?_) (fun h4 => br_dec (fun h5 => ?_) (fun h5 => br_yes ⟨by omega, by omega⟩ ?_))))
      · have hb := bad i 1 his (by omega) (okM_2 da db dc h4)
        show _ = _
        rw [cbS_f da db dc hb, hb]
      · have hb := bad i 1 his (by omega) (okM_l da db dc h5)
        show _ = _
        rw [cbS_f da db dc hb, hb]
      · refine next2 (by omega) _ ⟨?_, fun m hm2 => ?_⟩
        · rw [hz]
          exact mid_u da db dc s his rfl
        · by_cases e : m < 1
          · exact hm m e
          · obtain rfl : m = 1 := by omega
            exact okM_t da db dc h4 h5
    · show evP E29 G29 _ (lp29 8) (si29 da db dc s i 2 zs) (rkn29 _ _ 5 N 8 _)
      rw [bi29_2, Int.toNat_natCast]
      refine (br_t hD (br_intro (fun h4 => ?_) (fun h4 => br_dec (fun h5 => ?_) (fun h5 => br_yes ⟨by omega, by omega⟩ ?_))))
      · have hb := bad i 2 his (by omega) (okM_2 da db dc h4)
        show _ = _
        rw [cbS_f da db dc hb, hb]
      · have hb := bad i 2 his (by omega) (okM_l da db dc h5)
        show _ = _
        rw [cbS_f da db dc hb, hb]
      · refine next2 (by omega) _ ⟨?_, fun m hm2 => ?_⟩
        · rw [hz]
          exact mid_u da db dc s his rfl
        · by_cases e : m < 2
          · exact hm m e
          · obtain rfl : m = 2 := by omega
            exact okM_t da db dc h4 h5
    · show evP E29 G29 _ (lp29 8) (si29 da db dc s i 3 zs) (rkn29 _ _ 5 N 8 _)
      rw [bi29_3, Int.toNat_natCast]
      refine (br_t hD (br_intro (fun h4 => ?_) (fun h4 => br_dec (fun h5 => ?_) (fun h5 => br_yes ⟨by omega, by omega⟩ ?_))))
      · have hb := bad i 3 his (by omega) (okM_2 da db dc h4)
        show _ = _
        rw [cbS_f da db dc hb, hb]
      · have hb := bad i 3 his (by omega) (okM_l da db dc h5)
        show _ = _
        rw [cbS_f da db dc hb, hb]
      · refine next2 (by omega) _ ⟨?_, fun m hm2 => ?_⟩
        · rw [hz]
          exact mid_u da db dc s his rfl
        · by_cases e : m < 3
          · exact hm m e
          · obtain rfl : m = 3 := by omega
            exact okM_t da db dc h4 h5
    · show evP E29 G29 _ (lp29 8) (si29 da db dc s i 4 zs) (rkn29 _ _ 5 N 8 _)
      rw [bi29_4, Int.toNat_natCast]
      refine (br_t hD (br_intro (fun h4 => ?_) (fun h4 => br_dec (fun h5 => ?_) (fun h5 => br_yes ⟨by omega, by omega⟩ ?_))))
      · have hb := bad i 4 his (by omega) (okM_2 da db dc h4)
        show _ = _
        rw [cbS_f da db dc hb, hb]
      · have hb := bad i 4 his (by omega) (okM_l da db dc h5)
        show _ = _
        rw [cbS_f da db dc hb, hb]
      · refine next2 (by omega) _ ⟨?_, fun m hm2 => ?_⟩
        · rw [hz]
          exact mid_u da db dc s his rfl
        · by_cases e : m < 4
          · exact hm m e
          · obtain rfl : m = 4 := by omega
            exact okM_t da db dc h4 h5
    · show evP E29 G29 _ (lp29 8) (si29 da db dc s i 5 zs) (rkn29 _ _ 5 N 8 _)
      rw [bi29_5, Int.toNat_natCast]
      refine (br_t hD (br_intro (fun h4 => ?_) (fun h4 => br_dec (fun h5 => ?_) (fun h5 => br_yes ⟨by omega, by omega⟩ ?_))))
      · have hb := bad i 5 his (by omega) (okM_2 da db dc h4)
        show _ = _
        rw [cbS_f da db dc hb, hb]
      · have hb := bad i 5 his (by omega) (okM_l da db dc h5)
        show _ = _
        rw [cbS_f da db dc hb, hb]
      · refine next2 (by omega) _ ⟨?_, fun m hm2 => ?_⟩
        · rw [hz]
          exact mid_u da db dc s his rfl
        · by_cases e : m < 5
          · exact hm m e
          · obtain rfl : m = 5 := by omega
            exact okM_t da db dc h4 h5
    · show evP E29 G29 _ (lp29 8) (si29 da db dc s i 6 zs) (rkn29 _ _ 5 N 8 _)
      rw [bi29_6, Int.toNat_natCast]
      refine (br_t hD (br_intro (fun h4 => ?_) (fun h4 => br_dec (fun h5 => ?_) (fun h5 => br_yes ⟨by omega, by omega⟩ ?_))))
      · have hb := bad i 6 his (by omega) (okM_2 da db dc h4)
        show _ = _
        rw [cbS_f da db dc hb, hb]
      · have hb := bad i 6 his (by omega) (okM_l da db dc h5)
        show _ = _
        rw [cbS_f da db dc hb, hb]
      · refine next2 (by omega) _ ⟨?_, fun m hm2 => ?_⟩
        · rw [hz]
          exact mid_u da db dc s his rfl
        · by_cases e : m < 6
          · exact hm m e
          · obtain rfl : m = 6 := by omega
            exact okM_t da db dc h4 h5
    · show evP E29 G29 _ (lp29 8) (si29 da db dc s i 7 zs) (rkn29 _ _ 5 N 8 _)
      rw [bi29_7, Int.toNat_natCast]
      refine (br_t hD (br_intro (fun h4 => ?_) (fun h4 => br_dec (fun h5 => ?_) (fun h5 => br_yes ⟨by omega, by omega⟩ ?_))))
      · have hb := bad i 7 his (by omega) (okM_2 da db dc h4)
        show _ = _
        rw [cbS_f da db dc hb, hb]
      · have hb := bad i 7 his (by omega) (okM_l da db dc h5)
        show _ = _
        rw [cbS_f da db dc hb, hb]
      · refine next2 (by omega) _ ⟨?_, fun m hm2 => ?_⟩
        · rw [hz]
          exact mid_u da db dc s his rfl
        · by_cases e : m < 7
          · exact hm m e
          · obtain rfl : m = 7 := by omega
            exact okM_t da db dc h4 h5
    · show evP E29 G29 _ (lp29 8) (si29 da db dc s i 8 zs) (rkn29 _ _ 5 N 8 _)
      rw [bi29_8, wrap_id (n := (i : Int) + 1) (by omega) (by omega)]
      refine next (by omega) _ ⟨by rw [hz, mid_s], fun q hq2 j hj2 => ?_⟩
      by_cases e : q < i
      · exact hq q e j hj2
      · obtain rfl : q = i := by omega
        exact hm j hj2
  · exact h.elim
end Go.Proofs.YtkjnijddbiconaaGreatDoor.Ev
