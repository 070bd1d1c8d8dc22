/- The law of CoreSame. -/
import Derived.Test.YtkjnijddbiconaaGreatDoorC2
namespace Go.Proofs.YtkjnijddbiconaaGreatDoor.Ev
open Go
set_option linter.unusedVariables false
set_option linter.unusedSimpArgs false
set_option maxRecDepth 100000
abbrev Co := Int × List (Elem kc) × List (Elem k3) × List (Elem k3) × Bool × List (Elem ki) × Int
def coreOf : List AV → Option Co
  | [.val (.int .i64 x), .rsl c1 s, .rsl c2 d, .rsl c3 p, .val (.bool b), .rsl c4 f, .val (.int .i64 n)] => match castE kc c1 s, castE k3 c2 d, castE k3 c3 p, castE ki c4 f with
    | some s, some d, some p, some f => some (x, s, d, p, b, f, n)
    | _, _, _, _ => none
  | _ => none
abbrev coreAV (x : Int) (s : List (Elem kc)) (d p : List (Elem k3)) (b : Bool) (f : List (Elem ki)) (n : Int) : AV := .agg [.val (.int .i64 x), .rsl kc s, .rsl k3 d, .rsl k3 p, .val (.bool b), .rsl ki f, .val (.int .i64 n)]
def smCo (c : Co) : Bool := decide (c.2.1.length ≤ 1048576) && decide (c.2.2.1.length ≤ 1048576) && decide (c.2.2.2.1.length ≤ 1048576) && decide (c.2.2.2.2.2.1.length ≤ 1048576)
def eqCo (c e : Co) : Bool := (c.1 == e.1) && eqR kc c.2.1 e.2.1 && eqR k3 c.2.2.1 e.2.2.1 && eqR k3 c.2.2.2.1 e.2.2.2.1 && (c.2.2.2.2.1 == e.2.2.2.2.1) && eqR ki c.2.2.2.2.2.1 e.2.2.2.2.2.1 && (c.2.2.2.2.2.2 == e.2.2.2.2.2.2)
def g16 : G1
  | [.agg us, .agg vs], [], k => match coreOf us, coreOf vs with
    | some c, some e => br (smCo c) (k ⟨.val (.bool (eqCo c e)), [], []⟩) False
    | _, _ => False
  | _, _, _ => False
theorem coreOf_inv {us : List AV} {c : Co} (h : coreOf us = some c) : us = [.val (.int .i64 c.1), .rsl kc c.2.1, .rsl k3 c.2.2.1, .rsl k3 c.2.2.2.1, .val (.bool c.2.2.2.2.1), .rsl ki c.2.2.2.2.2.1, .val (.int .i64 c.2.2.2.2.2.2)] := by
  unfold coreOf at h
  split at h
  · split at h
    · rename_i h1 h2 h3 h4
      cases h
      cases castE_inv h1
      cases castE_inv h2
      cases castE_inv h3
      cases castE_inv h4
      rfl
    · cases h
  · cases h
noncomputable def G16 : Gk := gk [(63, g63), (64, g64), (65, g65), (15, g15)]
theorem hg16 : HG Tryz.prog G16 := (hg_cons h63 (hg_cons h64 (hg_cons h65 (hg_cons h15 hg_nil))))
theorem e16 (L : Lp) (R : Option Res → Prop) (x : Int) (s : List (Elem kc)) (d p : List (Elem k3)) (b : Bool) (f : List (Elem ki)) (n : Int) (x' : Int) (s' : List (Elem kc)) (d' p' : List (Elem k3)) (b' : Bool) (f' : List (Elem ki)) (n' : Int) : (bodyP E0 G16 L Tryz.f16 [coreAV x s d p b f n, coreAV x' s' d' p' b' f' n'] [] R) = (
    br (x != x') (R (some { av := vB false, obs := [], outs := [] })) (br (decide (s.length ≤ 1048576)) (br (!eqR kc s s') (R (some { av := vB false, obs := [], outs := [] })) (br (decide (d.length ≤ 1048576)) (br (!eqF d d') (R (some { av := vB false, obs := [], outs := [] })) (br (decide (p.length ≤ 1048576)) (br (!eqR k3 p p') (R (some { av := vB false, obs := [], outs := [] })) (br (!b == b') (R (some { av := vB false, obs := [], outs := [] })) (br (decide (f.length ≤ 1048576)) (br (!eqR ki f f') (R (some { av := vB false, obs := [], outs := [] })) (br (n != n') (R (some { av := vB false, obs := [], outs := [] })) (R (some { av := vB true, obs := [], outs := [] })))) False))) False)) False)) False)) := by kernel_rfl
theorem eqF_eqR (xs ys : List (Elem k3)) : eqF xs ys = eqR k3 xs ys := by
  unfold eqF eqR eqL
  congr 1
  refine allB_congr fun i hi => ?_
  show (_ && _ && _) = (_ && (_ && _))
  rw [Bool.and_assoc]
  rfl
theorem eqCo_def (x : Int) (s : List (Elem kc)) (d p : List (Elem k3)) (b : Bool) (f : List (Elem ki)) (n : Int) (x' : Int) (s' : List (Elem kc)) (d' p' : List (Elem k3)) (b' : Bool) (f' : List (Elem ki)) (n' : Int) : eqCo (x, s, d, p, b, f, n) (x', s', d', p', b', f', n') = ((x == x') && eqR kc s s' && eqR k3 d d' && eqR k3 p p' && (b == b') && eqR ki f f' && (n == n')) := rfl
theorem h16 : G1Ok Tryz.prog 16 g16 := by
  intro args obs k h
  unfold g16 at h
  split at h
  · rename_i k us vs
    split at h
    rotate_left
    · exact h.elim
    rename_i c e hc he
    obtain rfl := coreOf_inv hc
    obtain rfl := coreOf_inv he
    obtain ⟨x, s, d, p, b, f, n⟩ := c
    obtain ⟨x', s', d', p', b', f', n'⟩ := e
    obtain ⟨hp, h⟩ := br_and h
    simp only [smCo, Bool.and_eq_true] at hp
    obtain ⟨⟨⟨ps, pd⟩, pp⟩, pf⟩ := hp
    refine ⟨_, ctr_fn ok0 hg16 Tryz.func16 (by kernel_rfl) (by kernel_rfl) (by kernel_rfl) fun C => ?_, h⟩
    show bodyP E0 G16 _ Tryz.f16 [coreAV x s d p b f n, coreAV x' s' d' p' b' f' n'] [] _
    rw [e16]
    rw [eqF_eqR]
    refine br_bne (fun h1 => ?_) (fun h1 => br_t ps (br_not (fun h2 => ?_) (fun h2 => br_t pd (br_not (fun h3 => ?_) (fun h3 => br_t pp (br_not (fun h4 => ?_) (fun h4 => br_not (fun h5 => ?_) (fun h5 => br_t pf (br_not (fun h6 => ?_) (fun h6 => br_bne (fun h7 => ?_) (fun h7 => ?_)))))))))))
    · show _ = _
      rw [eqCo_def, h1]
      simp only [Bool.true_and, Bool.and_true, Bool.false_and, Bool.and_false]
    · show _ = _
      rw [eqCo_def, h1, h2]
      simp only [Bool.true_and, Bool.and_true, Bool.false_and, Bool.and_false]
    · show _ = _
      rw [eqCo_def, h1, h2, h3]
      simp only [Bool.true_and, Bool.and_true, Bool.false_and, Bool.and_false]
    · show _ = _
      rw [eqCo_def, h1, h2, h3, h4]
      simp only [Bool.true_and, Bool.and_true, Bool.false_and, Bool.and_false]
    · show _ = _
      rw [eqCo_def, h1, h2, h3, h4, h5]
      simp only [Bool.true_and, Bool.and_true, Bool.false_and, Bool.and_false]
    · show _ = _
      rw [eqCo_def, h1, h2, h3, h4, h5, h6]
      simp only [Bool.true_and, Bool.and_true, Bool.false_and, Bool.and_false]
    · show _ = _
      rw [eqCo_def, h1, h2, h3, h4, h5, h6, h7]
      simp only [Bool.true_and, Bool.and_true, Bool.false_and, Bool.and_false]
    · show _ = _
      rw [eqCo_def, h1, h2, h3, h4, h5, h6, h7]
      simp only [Bool.true_and, Bool.and_true, Bool.false_and, Bool.and_false]
  · exact h.elim
theorem eqCo_self (x : Int) (s : List (Elem kc)) (d p : List (Elem k3)) (b : Bool) (f : List (Elem ki)) (n : Int) : eqCo (x, s, d, p, b, f, n) (x, s, d, p, b, f, n) = true := by
  rw [eqCo_def, eqR_self, eqR_self, eqR_self, eqR_self]
  simp
end Go.Proofs.YtkjnijddbiconaaGreatDoor.Ev
