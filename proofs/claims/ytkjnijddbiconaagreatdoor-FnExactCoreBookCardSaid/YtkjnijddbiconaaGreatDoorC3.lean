/- The law of CoreSame. -/
import Derived.Test.YtkjnijddbiconaaGreatDoorC2
namespace Go.Proofs.YtkjnijddbiconaaGreatDoor.Ev
open Go
set_option linter.unusedVariables false
set_option linter.unusedSimpArgs false
set_option maxRecDepth 100000
abbrev Co := Int × List (Elem kc) × List (Elem k3) × List (Elem k3) × Bool × List (Elem ki) × Int
def coreOf : List AV → Option Co
  | [.val (.int .i64 x), .rsl c1 s, .rsl c2 d, .rsl c3 p, .val (.bool b), .rsl c4 f, .val (.int .i64 n)] => match castE kc c1 s, castE k3 c2 d, castE k3 c3 p, castE ki c4 f with
    | some s, some d, some p, some f => some (x, s, d, p, b, f, n)
    | _, _, _, _ => none
  | _ => none
abbrev coreAV (x : Int) (s : List (Elem kc)) (d p : List (Elem k3)) (b : Bool) (f : List (Elem ki)) (n : Int) : AV := .agg [.val (.int .i64 x), .rsl kc s, .rsl k3 d, .rsl k3 p, .val (.bool b), .rsl ki f, .val (.int .i64 n)]
def inCo (c : Co) : Bool := inCs c.2.1 && decide (c.2.2.1.length ≤ 9223372036854775807) && decide (c.2.2.2.1.length ≤ 9223372036854775807) && decide (c.2.2.2.2.2.1.length ≤ 9223372036854775807)
def szCo (c : Co) : Nat := szCs c.2.1 + c.2.2.1.length + c.2.2.2.1.length + c.2.2.2.2.2.1.length
def smCo (c : Co) : Bool := decide (c.2.1.length ≤ 1048576) && decide (c.2.2.1.length ≤ 1048576) && decide (c.2.2.2.1.length ≤ 1048576) && decide (c.2.2.2.2.2.1.length ≤ 1048576)
def eqCo (c e : Co) : Bool := (c.1 == e.1) && eqR kc c.2.1 e.2.1 && eqR k3 c.2.2.1 e.2.2.1 && eqR k3 c.2.2.2.1 e.2.2.2.1 && (c.2.2.2.2.1 == e.2.2.2.2.1) && eqR ki c.2.2.2.2.2.1 e.2.2.2.2.2.1 && (c.2.2.2.2.2.2 == e.2.2.2.2.2.2)
def g11 : G1
  | [.agg us, .val (.int .i64 l)], [], k => match coreOf us with
    | some c => br (inCo c && inL l) (k ⟨.val (.int .i64 (szR l (szCo c))), [], []⟩) False
    | none => False
  | _, _, _ => False
def g13 : G1
  | [.agg us], [], k => match coreOf us with
    | some c => br (smCo c) (k ⟨.agg [.val (.int .i64 c.1), .ows 0, .ows 1, .ows 2, .val (.bool c.2.2.2.2.1), .ows 3, .val (.int .i64 c.2.2.2.2.2.2)], [.row kc c.2.1, .row k3 c.2.2.1, .row k3 c.2.2.2.1, .row ki c.2.2.2.2.2.1], []⟩) False
    | none => False
  | _, _, _ => False
def g16 : G1
  | [.agg us, .agg vs], [], k => match coreOf us, coreOf vs with
    | some c, some e => br (smCo c) (k ⟨.val (.bool (eqCo c e)), [], []⟩) False
    | _, _ => False
  | _, _, _ => False
theorem inL_szR {l : Int} {t : Nat} (hl : l ≤ 1048576) (h : ¬ szR l t < 0) : inL (szR l t) = true := by
  have := szR_ge0 h
  rw [szR_pos this]
  simp only [inL, decide_eq_true_eq]
  omega
theorem coreOf_inv {us : List AV} {c : Co} (h : coreOf us = some c) : us = [.val (.int .i64 c.1), .rsl kc c.2.1, .rsl k3 c.2.2.1, .rsl k3 c.2.2.2.1, .val (.bool c.2.2.2.2.1), .rsl ki c.2.2.2.2.2.1, .val (.int .i64 c.2.2.2.2.2.2)] := by
  unfold coreOf at h
  split at h
  · split at h
    · rename_i h1 h2 h3 h4
      cases h
      cases castE_inv h1
      cases castE_inv h2
      cases castE_inv h3
      cases castE_inv h4
      rfl
    · cases h
  · cases h
noncomputable def E11 : Env := E0.of Tryz.f11
noncomputable def G11 : Gk := gk [(49, g49), (50, g23s), (51, g51), (52, g52)]
noncomputable def lp11 (n : Nat) : Code := (loopOf n (codeOf Tryz.f11)).getD .skip
noncomputable def ct11 (L : Lp) (R : Option Res → Prop) (n : Nat) : Kt := contOf E11 G11 L n (codeOf Tryz.f11) (endK E11 Tryz.f11.results.toList R)
noncomputable def rk11 (L : Lp) (R : Option Res → Prop) (n : Nat) (N : St → Prop) : Kt := rk (jof E11 (lp11 n)) N (ct11 L R n)
noncomputable def rkn11 (L : Lp) (R : Option Res → Prop) (n : Nat) (N : St → Prop) (m : Nat) (N2 : St → Prop) : Kt := rk (jof E11 (lp11 m)) N2 (contOf E11 G11 L m (lp11 n) (rk11 L R n N))
noncomputable def LOOPN11 (L : Lp) (R : Option Res → Prop) (n : Nat) (N : St → Prop) (m : Nat) (st : St) : Prop := L (lp11 m) st (contOf E11 G11 L m (lp11 n) (rk11 L R n N))
noncomputable def LOOP11 (L : Lp) (R : Option Res → Prop) (n : Nat) (st : St) : Prop := L (lp11 n) st (ct11 L R n)
theorem hg11 : HG Tryz.prog G11 := (hg_cons h49 (hg_cons h23s (hg_cons h51 (hg_cons h52 hg_nil))))
theorem okf11 : Ok Tryz.prog E11 := ok0.of Tryz.f11
theorem e11 (L : Lp) (R : Option Res → Prop) (x : Int) (s : List (Elem kc)) (d p : List (Elem k3)) (b : Bool) (f : List (Elem ki)) (n : Int) (l : Int) : (bodyP E0 G11 L Tryz.f11 [coreAV x s d p b f n, .val (.int .i64 l)] [] R) = (
    br (inCs s && inL l) (br (decide (szR l (szCs s) < 0)) (R (some { av := vI (-1), obs := [], outs := [] })) (br (decide (d.length ≤ 9223372036854775807) && inL (szR l (szCs s))) (br (decide (szR (szR l (szCs s)) d.length < 0)) (R (some { av := vI (-1), obs := [], outs := [] })) (br (decide (p.length ≤ 9223372036854775807) && inL (szR (szR l (szCs s)) d.length)) (br (decide (szR (szR (szR l (szCs s)) d.length) p.length < 0)) (R (some { av := vI (-1), obs := [], outs := [] })) (br (decide (f.length ≤ 9223372036854775807) && inL (szR (szR (szR l (szCs s)) d.length) p.length)) (br (decide (szR (szR (szR (szR l (szCs s)) d.length) p.length) f.length < 0)) (R (some { av := vI (-1), obs := [], outs := [] })) (R (some { av := vI (szR (szR (szR (szR l (szCs s)) d.length) p.length) f.length), obs := [], outs := [] }))) False)) False)) False)) False) := by kernel_rfl
theorem h11 : G1Ok Tryz.prog 11 g11 := by
  intro args obs k h
  unfold g11 at h
  split at h
  · rename_i k us l
    split at h
    rotate_left
    · exact h.elim
    rename_i c hc
    obtain rfl := coreOf_inv hc
    obtain ⟨x, s, d, p, b, f, n⟩ := c
    obtain ⟨hp, hl, h⟩ := brb2 h
    simp only [inCo, Bool.and_eq_true] at hp
    obtain ⟨⟨⟨ps, pd⟩, pp⟩, pf⟩ := hp
    have hl' : 0 ≤ l ∧ l ≤ 1048576 := of_decide_eq_true hl
    refine ⟨_, ctr_fn ok0 hg11 Tryz.func11 (by kernel_rfl) (by kernel_rfl) (by kernel_rfl) fun C => ?_, h⟩
    show bodyP E0 G11 _ Tryz.f11 [coreAV x s d p b f n, .val (.int .i64 l)] [] _
    rw [e11]
    have e : szCo (x, s, d, p, b, f, n) = szCs s + d.length + p.length + f.length := rfl
    rw [e]
    refine br_t (by rw [ps, hl]; rfl) (br_dec (fun h => ?_) (fun h => ?_))
    · have := szR_lt0 h
      show _ = _
      rw [szR_neg (by omega)]
    have i1 := inL_szR hl'.2 h
    have g1 := szR_ge0 h
    rw [szR_pos g1] at i1 ⊢
    refine br_t (by rw [pd, i1]; rfl) (br_dec (fun h => ?_) (fun h => ?_))
    · have := szR_lt0 h
      show _ = _
      rw [szR_neg (by omega)]
    have i2 := inL_szR (by omega) h
    have g2 := szR_ge0 h
    rw [szR_pos g2] at i2 ⊢
    refine br_t (by rw [pp, i2]; rfl) (br_dec (fun h => ?_) (fun h => ?_))
    · have := szR_lt0 h
      show _ = _
      rw [szR_neg (by omega)]
    have i3 := inL_szR (by omega) h
    have g3 := szR_ge0 h
    rw [szR_pos g3] at i3 ⊢
    refine br_t (by rw [pf, i3]; rfl) (br_dec (fun h => ?_) (fun h => ?_))
    · have := szR_lt0 h
      show _ = _
      rw [szR_neg (by omega)]
    have g4 := szR_ge0 h
    show _ = _
    rw [szR_pos g4, szR_pos (by omega)]
    exact resI (by omega)
  · exact h.elim
noncomputable def E13 : Env := E0.of Tryz.f13
noncomputable def G13 : Gk := gk [(54, g54), (55, g55), (56, g56), (57, g57)]
noncomputable def lp13 (n : Nat) : Code := (loopOf n (codeOf Tryz.f13)).getD .skip
noncomputable def ct13 (L : Lp) (R : Option Res → Prop) (n : Nat) : Kt := contOf E13 G13 L n (codeOf Tryz.f13) (endK E13 Tryz.f13.results.toList R)
noncomputable def rk13 (L : Lp) (R : Option Res → Prop) (n : Nat) (N : St → Prop) : Kt := rk (jof E13 (lp13 n)) N (ct13 L R n)
noncomputable def rkn13 (L : Lp) (R : Option Res → Prop) (n : Nat) (N : St → Prop) (m : Nat) (N2 : St → Prop) : Kt := rk (jof E13 (lp13 m)) N2 (contOf E13 G13 L m (lp13 n) (rk13 L R n N))
noncomputable def LOOPN13 (L : Lp) (R : Option Res → Prop) (n : Nat) (N : St → Prop) (m : Nat) (st : St) : Prop := L (lp13 m) st (contOf E13 G13 L m (lp13 n) (rk13 L R n N))
noncomputable def LOOP13 (L : Lp) (R : Option Res → Prop) (n : Nat) (st : St) : Prop := L (lp13 n) st (ct13 L R n)
theorem hg13 : HG Tryz.prog G13 := (hg_cons h54 (hg_cons h55 (hg_cons h56 (hg_cons h57 hg_nil))))
theorem okf13 : Ok Tryz.prog E13 := ok0.of Tryz.f13
theorem e13 (L : Lp) (R : Option Res → Prop) (x : Int) (s : List (Elem kc)) (d p : List (Elem k3)) (b : Bool) (f : List (Elem ki)) (n : Int) : (bodyP E0 G13 L Tryz.f13 [coreAV x s d p b f n] [] R) = (
    br (decide (s.length ≤ 1048576)) (br (decide (d.length ≤ 1048576)) (br (decide (p.length ≤ 1048576)) (br (decide (f.length ≤ 1048576)) (R (some { av := AV.agg [vI x, AV.ows 0, AV.ows 1, AV.ows 2, vB b, AV.ows 3, vI n], obs := [AO.row kc s, AO.row k3 d, AO.row k3 p, AO.row ki f], outs := [] })) False) False) False) False) := by kernel_rfl
theorem h13 : G1Ok Tryz.prog 13 g13 := by
  intro args obs k h
  unfold g13 at h
  split at h
  · rename_i k us
    split at h
    rotate_left
    · exact h.elim
    rename_i c hc
    obtain rfl := coreOf_inv hc
    obtain ⟨x, s, d, p, b, f, n⟩ := c
    obtain ⟨hp, h⟩ := br_and h
    simp only [smCo, Bool.and_eq_true] at hp
    obtain ⟨⟨⟨ps, pd⟩, pp⟩, pf⟩ := hp
    refine ⟨_, ctr_fn ok0 hg13 Tryz.func13 (by kernel_rfl) (by kernel_rfl) (by kernel_rfl) fun C => ?_, h⟩
    show bodyP E0 G13 _ Tryz.f13 [coreAV x s d p b f n] [] _
    rw [e13]
    exact br_t ps (br_t pd (br_t pp (br_t pf rfl)))
  · exact h.elim
noncomputable def E16 : Env := E0.of Tryz.f16
noncomputable def G16 : Gk := gk [(63, g63), (64, g64), (65, g65), (15, g15)]
noncomputable def lp16 (n : Nat) : Code := (loopOf n (codeOf Tryz.f16)).getD .skip
noncomputable def ct16 (L : Lp) (R : Option Res → Prop) (n : Nat) : Kt := contOf E16 G16 L n (codeOf Tryz.f16) (endK E16 Tryz.f16.results.toList R)
noncomputable def rk16 (L : Lp) (R : Option Res → Prop) (n : Nat) (N : St → Prop) : Kt := rk (jof E16 (lp16 n)) N (ct16 L R n)
noncomputable def rkn16 (L : Lp) (R : Option Res → Prop) (n : Nat) (N : St → Prop) (m : Nat) (N2 : St → Prop) : Kt := rk (jof E16 (lp16 m)) N2 (contOf E16 G16 L m (lp16 n) (rk16 L R n N))
noncomputable def LOOPN16 (L : Lp) (R : Option Res → Prop) (n : Nat) (N : St → Prop) (m : Nat) (st : St) : Prop := L (lp16 m) st (contOf E16 G16 L m (lp16 n) (rk16 L R n N))
noncomputable def LOOP16 (L : Lp) (R : Option Res → Prop) (n : Nat) (st : St) : Prop := L (lp16 n) st (ct16 L R n)
theorem hg16 : HG Tryz.prog G16 := (hg_cons h63 (hg_cons h64 (hg_cons h65 (hg_cons h15 hg_nil))))
theorem okf16 : Ok Tryz.prog E16 := ok0.of Tryz.f16
theorem e16 (L : Lp) (R : Option Res → Prop) (x : Int) (s : List (Elem kc)) (d p : List (Elem k3)) (b : Bool) (f : List (Elem ki)) (n : Int) (x' : Int) (s' : List (Elem kc)) (d' p' : List (Elem k3)) (b' : Bool) (f' : List (Elem ki)) (n' : Int) : (bodyP E0 G16 L Tryz.f16 [coreAV x s d p b f n, coreAV x' s' d' p' b' f' n'] [] R) = (
    br (x != x') (R (some { av := vB false, obs := [], outs := [] })) (br (decide (s.length ≤ 1048576)) (br (!eqR kc s s') (R (some { av := vB false, obs := [], outs := [] })) (br (decide (d.length ≤ 1048576)) (br (!eqF d d') (R (some { av := vB false, obs := [], outs := [] })) (br (decide (p.length ≤ 1048576)) (br (!eqR k3 p p') (R (some { av := vB false, obs := [], outs := [] })) (br (!b == b') (R (some { av := vB false, obs := [], outs := [] })) (br (decide (f.length ≤ 1048576)) (br (!eqR ki f f') (R (some { av := vB false, obs := [], outs := [] })) (br (n != n') (R (some { av := vB false, obs := [], outs := [] })) (R (some { av := vB true, obs := [], outs := [] })))) False))) False)) False)) False)) := by kernel_rfl
theorem eqF_eqR (xs ys : List (Elem k3)) : eqF xs ys = eqR k3 xs ys := by
  unfold eqF eqR eqL
  congr 1
  refine allB_congr fun i hi => ?_
  show (_ && _ && _) = (_ && (_ && _))
  rw [Bool.and_assoc]
  rfl
theorem eqCo_def (x : Int) (s : List (Elem kc)) (d p : List (Elem k3)) (b : Bool) (f : List (Elem ki)) (n : Int) (x' : Int) (s' : List (Elem kc)) (d' p' : List (Elem k3)) (b' : Bool) (f' : List (Elem ki)) (n' : Int) : eqCo (x, s, d, p, b, f, n) (x', s', d', p', b', f', n') = ((x == x') && eqR kc s s' && eqR k3 d d' && eqR k3 p p' && (b == b') && eqR ki f f' && (n == n')) := rfl
theorem h16 : G1Ok Tryz.prog 16 g16 := by
  intro args obs k h
  unfold g16 at h
  split at h
  · rename_i k us vs
    split at h
    rotate_left
    · exact h.elim
    rename_i c e hc he
    obtain rfl := coreOf_inv hc
    obtain rfl := coreOf_inv he
    obtain ⟨x, s, d, p, b, f, n⟩ := c
    obtain ⟨x', s', d', p', b', f', n'⟩ := e
    obtain ⟨hp, h⟩ := br_and h
    simp only [smCo, Bool.and_eq_true] at hp
    obtain ⟨⟨⟨ps, pd⟩, pp⟩, pf⟩ := hp
    refine ⟨_, ctr_fn ok0 hg16 Tryz.func16 (by kernel_rfl) (by kernel_rfl) (by kernel_rfl) fun C => ?_, h⟩
    show bodyP E0 G16 _ Tryz.f16 [coreAV x s d p b f n, coreAV x' s' d' p' b' f' n'] [] _
    rw [e16]
    rw [eqF_eqR]
    refine br_bne (fun h1 => ?_) (fun h1 => br_t ps (br_not (fun h2 => ?_) (fun h2 => br_t pd (br_not (fun h3 => ?_) (fun h3 => br_t pp (br_not (fun h4 => ?_) (fun h4 => br_not (fun h5 => ?_) (fun h5 => br_t pf (br_not (fun h6 => ?_) (fun h6 => br_bne (fun h7 => ?_) (fun h7 => ?_)))))))))))
    · show _ = _
      rw [eqCo_def, h1]
      simp only [Bool.true_and, Bool.and_true, Bool.false_and, Bool.and_false]
    · show _ = _
      rw [eqCo_def, h1, h2]
      simp only [Bool.true_and, Bool.and_true, Bool.false_and, Bool.and_false]
    · show _ = _
      rw [eqCo_def, h1, h2, h3]
      simp only [Bool.true_and, Bool.and_true, Bool.false_and, Bool.and_false]
    · show _ = _
      rw [eqCo_def, h1, h2, h3, h4]
      simp only [Bool.true_and, Bool.and_true, Bool.false_and, Bool.and_false]
    · show _ = _
      rw [eqCo_def, h1, h2, h3, h4, h5]
      simp only [Bool.true_and, Bool.and_true, Bool.false_and, Bool.and_false]
    · show _ = _
      rw [eqCo_def, h1, h2, h3, h4, h5, h6]
      simp only [Bool.true_and, Bool.and_true, Bool.false_and, Bool.and_false]
    · show _ = _
      rw [eqCo_def, h1, h2, h3, h4, h5, h6, h7]
      simp only [Bool.true_and, Bool.and_true, Bool.false_and, Bool.and_false]
    · show _ = _
      rw [eqCo_def, h1, h2, h3, h4, h5, h6, h7]
      simp only [Bool.true_and, Bool.and_true, Bool.false_and, Bool.and_false]
  · exact h.elim
theorem eqCo_self (x : Int) (s : List (Elem kc)) (d p : List (Elem k3)) (b : Bool) (f : List (Elem ki)) (n : Int) : eqCo (x, s, d, p, b, f, n) (x, s, d, p, b, f, n) = true := by
  rw [eqCo_def, eqR_self, eqR_self, eqR_self, eqR_self]
  simp
def coOk (x : Int) (s : List (Elem kc)) (d p : List (Elem k3)) (b : Bool) (f : List (Elem ki)) (n : Int) : Prop := (s.length ≤ maxLen ∧ ∀ e ∈ s, elemOk kc e) ∧ d.length ≤ maxLen ∧ p.length ≤ maxLen ∧ f.length ≤ maxLen
theorem inCo_of {x : Int} {s : List (Elem kc)} {d p : List (Elem k3)} {b : Bool} {f : List (Elem ki)} {n : Int} (h : coOk x s d p b f n) : inCo (x, s, d, p, b, f, n) = true := by
  obtain ⟨⟨h1, h1'⟩, h2, h3, h4⟩ := h
  have e1 : inCs s = true := by
    unfold inCs
    rw [Bool.and_eq_true, decide_eq_true_eq, List.all_eq_true]
    refine ⟨h1, fun e he => ?_⟩
    obtain ⟨q0, _, q2, _⟩ := h1' e he
    unfold inC inS
    rw [decide_eq_true (show e.1.size ≤ 9223372036854775807 from q0), decide_eq_true (show e.2.2.1.size ≤ 9223372036854775807 from q2)]
    rfl
  show (inCs s && decide (d.length ≤ 9223372036854775807) && decide (p.length ≤ 9223372036854775807) && decide (f.length ≤ 9223372036854775807)) = true
  rw [e1, decide_eq_true (show d.length ≤ 9223372036854775807 from h2), decide_eq_true (show p.length ≤ 9223372036854775807 from h3), decide_eq_true (show f.length ≤ 9223372036854775807 from h4)]
  rfl
theorem smCo_of {x : Int} {s : List (Elem kc)} {d p : List (Elem k3)} {b : Bool} {f : List (Elem ki)} {n : Int} {l : Int} (hl : l ≤ 1048576) (h : ¬ szR l (szCo (x, s, d, p, b, f, n)) < 0) : smCo (x, s, d, p, b, f, n) = true := by
  have := szR_ge0 h
  have e : szCo (x, s, d, p, b, f, n) = (s.length + (s.map szC).sum) + d.length + p.length + f.length := rfl
  rw [e] at this
  show (decide (s.length ≤ 1048576) && decide (d.length ≤ 1048576) && decide (p.length ≤ 1048576) && decide (f.length ≤ 1048576)) = true
  simp only [Bool.and_eq_true, decide_eq_true_eq]
  omega
end Go.Proofs.YtkjnijddbiconaaGreatDoor.Ev
