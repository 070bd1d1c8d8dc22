/- The law of CoreSame. -/
import Derived.Test.YtjhjhkphcemcmaaF17
namespace Go.Proofs.Ytjhjhkphcemcmaa.Ev
open Go
set_option linter.unusedVariables false
set_option linter.unusedSimpArgs false
set_option maxRecDepth 100000
abbrev Co := Int × List (Elem kc) × List (Elem k3) × List (Elem k3) × Bool × List (Elem ki) × Int
def coreOf : List AV → Option Co
  | [.val (.int .i64 x), .rsl c1 s, .rsl c2 d, .rsl c3 p, .val (.bool b), .rsl c4 f, .val (.int .i64 n)] => match castE kc c1 s, castE k3 c2 d, castE k3 c3 p, castE ki c4 f with
    | some s, some d, some p, some f => some (x, s, d, p, b, f, n)
    | _, _, _, _ => none
  | _ => none
abbrev coreAV (x : Int) (s : List (Elem kc)) (d p : List (Elem k3)) (b : Bool) (f : List (Elem ki)) (n : Int) : AV := .agg [.val (.int .i64 x), .rsl kc s, .rsl k3 d, .rsl k3 p, .val (.bool b), .rsl ki f, .val (.int .i64 n)]
def inCo (c : Co) : Bool := inCs c.2.1 && decide (c.2.2.1.length ≤ 9223372036854775807) && decide (c.2.2.2.1.length ≤ 9223372036854775807) && decide (c.2.2.2.2.2.1.length ≤ 9223372036854775807)
def szCo (c : Co) : Nat := szCs c.2.1 + c.2.2.1.length + c.2.2.2.1.length + c.2.2.2.2.2.1.length
def smCo (c : Co) : Bool := decide (c.2.1.length ≤ 1048576) && decide (c.2.2.1.length ≤ 1048576) && decide (c.2.2.2.1.length ≤ 1048576) && decide (c.2.2.2.2.2.1.length ≤ 1048576)
def eqCo (c e : Co) : Bool := (c.1 == e.1) && eqR kc c.2.1 e.2.1 && eqR k3 c.2.2.1 e.2.2.1 && eqR k3 c.2.2.2.1 e.2.2.2.1 && (c.2.2.2.2.1 == e.2.2.2.2.1) && eqR ki c.2.2.2.2.2.1 e.2.2.2.2.2.1 && (c.2.2.2.2.2.2 == e.2.2.2.2.2.2)
def g58 : G1
  | [.agg us, .val (.int .i64 l)], [], k => match coreOf us with
    | some c => br (inCo c && inL l) (k ⟨.val (.int .i64 (szR l (szCo c))), [], []⟩) False
    | none => False
  | _, _, _ => False
def g60 : G1
  | [.agg us], [], k => match coreOf us with
    | some c => br (smCo c) (k ⟨.agg [.val (.int .i64 c.1), .ows 0, .ows 1, .ows 2, .val (.bool c.2.2.2.2.1), .ows 3, .val (.int .i64 c.2.2.2.2.2.2)], [.row kc c.2.1, .row k3 c.2.2.1, .row k3 c.2.2.2.1, .row ki c.2.2.2.2.2.1], []⟩) False
    | none => False
  | _, _, _ => False
def g62 : G1
  | [.agg us, .agg vs], [], k => match coreOf us, coreOf vs with
    | some c, some e => br (smCo c) (k ⟨.val (.bool (eqCo c e)), [], []⟩) False
    | _, _ => False
  | _, _, _ => False
theorem coreOf_inv {us : List AV} {c : Co} (h : coreOf us = some c) : us = [.val (.int .i64 c.1), .rsl kc c.2.1, .rsl k3 c.2.2.1, .rsl k3 c.2.2.2.1, .val (.bool c.2.2.2.2.1), .rsl ki c.2.2.2.2.2.1, .val (.int .i64 c.2.2.2.2.2.2)] := by
  unfold coreOf at h
  split at h
  · split at h
    · rename_i h1 h2 h3 h4
      cases h
      cases castE_inv h1
      cases castE_inv h2
      cases castE_inv h3
      cases castE_inv h4
      rfl
    · cases h
  · cases h
noncomputable def E58 : Env := E0.of Try.f58
noncomputable def G58 : Gk := gk [(105, g105), (23, g23s), (106, g106), (107, g107)]
noncomputable def lp58 (n : Nat) : Code := (loopOf n (codeOf Try.f58)).getD .skip
noncomputable def ct58 (L : Lp) (R : Option Res → Prop) (n : Nat) : Kt := contOf E58 G58 L n (codeOf Try.f58) (endK E58 Try.f58.results.toList R)
noncomputable def rk58 (L : Lp) (R : Option Res → Prop) (n : Nat) (N : St → Prop) : Kt := rk (jof E58 (lp58 n)) N (ct58 L R n)
noncomputable def LOOP58 (L : Lp) (R : Option Res → Prop) (n : Nat) (st : St) : Prop := L (lp58 n) st (ct58 L R n)
theorem hg58 : HG Try.prog G58 := (hg_cons h105 (hg_cons h23s (hg_cons h106 (hg_cons h107 hg_nil))))
theorem okf58 : Ok Try.prog E58 := ok0.of Try.f58
theorem e58 (L : Lp) (R : Option Res → Prop) (x : Int) (s : List (Elem kc)) (d p : List (Elem k3)) (b : Bool) (f : List (Elem ki)) (n : Int) (l : Int) : (bodyP E0 G58 L Try.f58 [coreAV x s d p b f n, .val (.int .i64 l)] [] R) = (
    br (inCs s && inL l)
      (br (decide (szR l (szCs s) < 0)) (R (some { av := AV.val (Value.int IntKind.i64 (-1)), obs := [], outs := [] }))
        (br (decide (d.length ≤ 9223372036854775807) && inL (szR l (szCs s)))
          (br (decide (szR (szR l (szCs s)) d.length < 0))
            (R (some { av := AV.val (Value.int IntKind.i64 (-1)), obs := [], outs := [] }))
            (br (decide (p.length ≤ 9223372036854775807) && inL (szR (szR l (szCs s)) d.length))
              (br (decide (szR (szR (szR l (szCs s)) d.length) p.length < 0))
                (R (some { av := AV.val (Value.int IntKind.i64 (-1)), obs := [], outs := [] }))
                (br (decide (f.length ≤ 9223372036854775807) && inL (szR (szR (szR l (szCs s)) d.length) p.length))
                  (br (decide (szR (szR (szR (szR l (szCs s)) d.length) p.length) f.length < 0))
                    (R (some { av := AV.val (Value.int IntKind.i64 (-1)), obs := [], outs := [] }))
                    (R
                      (some
                        {
                          av :=
                            AV.val (Value.int IntKind.i64 (szR (szR (szR (szR l (szCs s)) d.length) p.length) f.length)),
                          obs := [], outs := [] })))
                  False))
              False))
          False))
      False) := by kernel_rfl
theorem h58 : G1Ok Try.prog 58 g58 := by
  intro args obs k h
  unfold g58 at h
  split at h
  · rename_i k us l
    split at h
    rotate_left
    · exact h.elim
    rename_i c hc
    obtain rfl := coreOf_inv hc
    obtain ⟨x, s, d, p, b, f, n⟩ := c
    obtain ⟨hp, hl, h⟩ := brb2 h
    simp only [inCo, Bool.and_eq_true] at hp
    obtain ⟨⟨⟨ps, pd⟩, pp⟩, pf⟩ := hp
    have hl' : 0 ≤ l ∧ l ≤ 1048576 := of_decide_eq_true hl
    refine ⟨_, ctr_fn ok0 hg58 Try.func58 (by kernel_rfl) (by kernel_rfl) (by kernel_rfl) fun C => ?_, h⟩
    show bodyP E0 G58 _ Try.f58 [coreAV x s d p b f n, .val (.int .i64 l)] [] _
    rw [e58]
    have e : szCo (x, s, d, p, b, f, n) = szCs s + d.length + p.length + f.length := rfl
    rw [e]
    refine br_t (by rw [ps, hl]; rfl) (br_dec (fun h => ?_) (fun h => ?_))
    · have := szR_lt0 h
      show _ = _
      rw [szR_neg (by omega)]
    have i1 := inL_szR hl'.2 h
    have g1 := szR_ge0 h
    rw [szR_pos g1] at i1 ⊢
    refine br_t (by rw [pd, i1]; rfl) (br_dec (fun h => ?_) (fun h => ?_))
    · have := szR_lt0 h
      show _ = _
      rw [szR_neg (by omega)]
    have i2 := inL_szR (by omega) h
    have g2 := szR_ge0 h
    rw [szR_pos g2] at i2 ⊢
    refine br_t (by rw [pp, i2]; rfl) (br_dec (fun h => ?_) (fun h => ?_))
    · have := szR_lt0 h
      show _ = _
      rw [szR_neg (by omega)]
    have i3 := inL_szR (by omega) h
    have g3 := szR_ge0 h
    rw [szR_pos g3] at i3 ⊢
    refine br_t (by rw [pf, i3]; rfl) (br_dec (fun h => ?_) (fun h => ?_))
    · have := szR_lt0 h
      show _ = _
      rw [szR_neg (by omega)]
    have g4 := szR_ge0 h
    show _ = _
    rw [szR_pos g4, szR_pos (by omega)]
    congr 4
    omega
  · exact h.elim
noncomputable def E60 : Env := E0.of Try.f60
noncomputable def G60 : Gk := gk [(109, g109), (25, g25), (110, g110), (111, g111)]
noncomputable def lp60 (n : Nat) : Code := (loopOf n (codeOf Try.f60)).getD .skip
noncomputable def ct60 (L : Lp) (R : Option Res → Prop) (n : Nat) : Kt := contOf E60 G60 L n (codeOf Try.f60) (endK E60 Try.f60.results.toList R)
noncomputable def rk60 (L : Lp) (R : Option Res → Prop) (n : Nat) (N : St → Prop) : Kt := rk (jof E60 (lp60 n)) N (ct60 L R n)
noncomputable def LOOP60 (L : Lp) (R : Option Res → Prop) (n : Nat) (st : St) : Prop := L (lp60 n) st (ct60 L R n)
theorem hg60 : HG Try.prog G60 := (hg_cons h109 (hg_cons h25 (hg_cons h110 (hg_cons h111 hg_nil))))
theorem okf60 : Ok Try.prog E60 := ok0.of Try.f60
theorem e60 (L : Lp) (R : Option Res → Prop) (x : Int) (s : List (Elem kc)) (d p : List (Elem k3)) (b : Bool) (f : List (Elem ki)) (n : Int) : (bodyP E0 G60 L Try.f60 [coreAV x s d p b f n] [] R) = (
    br (decide (s.length ≤ 1048576))
      (br (decide (d.length ≤ 1048576))
        (br (decide (p.length ≤ 1048576))
          (br (decide (f.length ≤ 1048576))
            (R
              (some
                {
                  av :=
                    AV.agg
                      [AV.val (Value.int IntKind.i64 x), AV.ows 0, AV.ows 1, AV.ows 2, AV.val (Value.bool b), AV.ows 3,
                        AV.val (Value.int IntKind.i64 n)],
                  obs :=
                    [AO.row
                        [CK.str, CK.int IntKind.i64, CK.str, CK.int IntKind.i64, CK.int IntKind.i64, CK.int IntKind.i64,
                          CK.int IntKind.i64, CK.int IntKind.i64, CK.int IntKind.i64, CK.int IntKind.i64,
                          CK.int IntKind.i64, CK.int IntKind.i64, CK.int IntKind.i64, CK.int IntKind.i64,
                          CK.int IntKind.i64, CK.int IntKind.i64, CK.int IntKind.i64, CK.int IntKind.i64,
                          CK.int IntKind.i64, CK.int IntKind.i64, CK.int IntKind.i64, CK.int IntKind.i64,
                          CK.int IntKind.i64, CK.int IntKind.i64, CK.int IntKind.i64, CK.int IntKind.i64,
                          CK.int IntKind.i64, CK.int IntKind.i64, CK.int IntKind.i64, CK.int IntKind.i64, CK.bool]
                        s,
                      AO.row [CK.int IntKind.i64, CK.int IntKind.i64, CK.int IntKind.i64] d,
                      AO.row [CK.int IntKind.i64, CK.int IntKind.i64, CK.int IntKind.i64] p, AO.row [CK.int IntKind.i64] f],
                  outs := [] }))
            False)
          False)
        False)
      False) := by kernel_rfl
theorem h60 : G1Ok Try.prog 60 g60 := by
  intro args obs k h
  unfold g60 at h
  split at h
  · rename_i k us
    split at h
    rotate_left
    · exact h.elim
    rename_i c hc
    obtain rfl := coreOf_inv hc
    obtain ⟨x, s, d, p, b, f, n⟩ := c
    obtain ⟨hp, h⟩ := br_and h
    simp only [smCo, Bool.and_eq_true] at hp
    obtain ⟨⟨⟨ps, pd⟩, pp⟩, pf⟩ := hp
    refine ⟨_, ctr_fn ok0 hg60 Try.func60 (by kernel_rfl) (by kernel_rfl) (by kernel_rfl) fun C => ?_, h⟩
    show bodyP E0 G60 _ Try.f60 [coreAV x s d p b f n] [] _
    rw [e60]
    exact br_t ps (br_t pd (br_t pp (br_t pf rfl)))
  · exact h.elim
noncomputable def E62 : Env := E0.of Try.f62
noncomputable def G62 : Gk := gk [(116, g116), (27, g27), (117, g117), (118, g118)]
noncomputable def lp62 (n : Nat) : Code := (loopOf n (codeOf Try.f62)).getD .skip
noncomputable def ct62 (L : Lp) (R : Option Res → Prop) (n : Nat) : Kt := contOf E62 G62 L n (codeOf Try.f62) (endK E62 Try.f62.results.toList R)
noncomputable def rk62 (L : Lp) (R : Option Res → Prop) (n : Nat) (N : St → Prop) : Kt := rk (jof E62 (lp62 n)) N (ct62 L R n)
noncomputable def LOOP62 (L : Lp) (R : Option Res → Prop) (n : Nat) (st : St) : Prop := L (lp62 n) st (ct62 L R n)
theorem hg62 : HG Try.prog G62 := (hg_cons h116 (hg_cons h27 (hg_cons h117 (hg_cons h118 hg_nil))))
theorem okf62 : Ok Try.prog E62 := ok0.of Try.f62
theorem e62 (L : Lp) (R : Option Res → Prop) (x : Int) (s : List (Elem kc)) (d p : List (Elem k3)) (b : Bool) (f : List (Elem ki)) (n : Int) (x' : Int) (s' : List (Elem kc)) (d' p' : List (Elem k3)) (b' : Bool) (f' : List (Elem ki)) (n' : Int) : (bodyP E0 G62 L Try.f62 [coreAV x s d p b f n, coreAV x' s' d' p' b' f' n'] [] R) = (
    br (x != x') (R (some { av := AV.val (Value.bool false), obs := [], outs := [] }))
      (br (decide (s.length ≤ 1048576))
        (br (!eqR kc s s') (R (some { av := AV.val (Value.bool false), obs := [], outs := [] }))
          (br (decide (d.length ≤ 1048576))
            (br (!eqF d d') (R (some { av := AV.val (Value.bool false), obs := [], outs := [] }))
              (br (decide (p.length ≤ 1048576))
                (br (!eqR k3 p p') (R (some { av := AV.val (Value.bool false), obs := [], outs := [] }))
                  (br (!b == b') (R (some { av := AV.val (Value.bool false), obs := [], outs := [] }))
                    (br (decide (f.length ≤ 1048576))
                      (br (!eqR ki f f') (R (some { av := AV.val (Value.bool false), obs := [], outs := [] }))
                        (br (n != n') (R (some { av := AV.val (Value.bool false), obs := [], outs := [] }))
                          (R (some { av := AV.val (Value.bool true), obs := [], outs := [] }))))
                      False)))
                False))
            False))
        False)) := by kernel_rfl
theorem eqF_eqR (xs ys : List (Elem k3)) : eqF xs ys = eqR k3 xs ys := by
  unfold eqF eqR eqL
  congr 1
  refine allB_congr fun i hi => ?_
  show (_ && _ && _) = (_ && (_ && _))
  rw [Bool.and_assoc]
  rfl
theorem eqCo_def (x : Int) (s : List (Elem kc)) (d p : List (Elem k3)) (b : Bool) (f : List (Elem ki)) (n : Int) (x' : Int) (s' : List (Elem kc)) (d' p' : List (Elem k3)) (b' : Bool) (f' : List (Elem ki)) (n' : Int) : eqCo (x, s, d, p, b, f, n) (x', s', d', p', b', f', n') = ((x == x') && eqR kc s s' && eqR k3 d d' && eqR k3 p p' && (b == b') && eqR ki f f' && (n == n')) := rfl
theorem h62 : G1Ok Try.prog 62 g62 := by
  intro args obs k h
  unfold g62 at h
  split at h
  · rename_i k us vs
    split at h
    rotate_left
    · exact h.elim
    rename_i c e hc he
    obtain rfl := coreOf_inv hc
    obtain rfl := coreOf_inv he
    obtain ⟨x, s, d, p, b, f, n⟩ := c
    obtain ⟨x', s', d', p', b', f', n'⟩ := e
    obtain ⟨hp, h⟩ := br_and h
    simp only [smCo, Bool.and_eq_true] at hp
    obtain ⟨⟨⟨ps, pd⟩, pp⟩, pf⟩ := hp
    refine ⟨_, ctr_fn ok0 hg62 Try.func62 (by kernel_rfl) (by kernel_rfl) (by kernel_rfl) fun C => ?_, h⟩
    show bodyP E0 G62 _ Try.f62 [coreAV x s d p b f n, coreAV x' s' d' p' b' f' n'] [] _
    rw [e62]
    rw [eqF_eqR]
    refine br_bne (fun h1 => ?_) (fun h1 => br_t ps (br_not (fun h2 => ?_) (fun h2 => br_t pd (br_not (fun h3 => ?_) (fun h3 => br_t pp (br_not (fun h4 => ?_) (fun h4 => br_not (fun h5 => ?_) (fun h5 => br_t pf (br_not (fun h6 => ?_) (fun h6 => br_bne (fun h7 => ?_) (fun h7 => ?_)))))))))))
    · show _ = _
      rw [eqCo_def, h1]
      simp only [Bool.true_and, Bool.and_true, Bool.false_and, Bool.and_false]
    · show _ = _
      rw [eqCo_def, h1, h2]
      simp only [Bool.true_and, Bool.and_true, Bool.false_and, Bool.and_false]
    · show _ = _
      rw [eqCo_def, h1, h2, h3]
      simp only [Bool.true_and, Bool.and_true, Bool.false_and, Bool.and_false]
    · show _ = _
      rw [eqCo_def, h1, h2, h3, h4]
      simp only [Bool.true_and, Bool.and_true, Bool.false_and, Bool.and_false]
    · show _ = _
      rw [eqCo_def, h1, h2, h3, h4, h5]
      simp only [Bool.true_and, Bool.and_true, Bool.false_and, Bool.and_false]
    · show _ = _
      rw [eqCo_def, h1, h2, h3, h4, h5, h6]
      simp only [Bool.true_and, Bool.and_true, Bool.false_and, Bool.and_false]
    · show _ = _
      rw [eqCo_def, h1, h2, h3, h4, h5, h6, h7]
      simp only [Bool.true_and, Bool.and_true, Bool.false_and, Bool.and_false]
    · show _ = _
      rw [eqCo_def, h1, h2, h3, h4, h5, h6, h7]
      simp only [Bool.true_and, Bool.and_true, Bool.false_and, Bool.and_false]
  · exact h.elim
def g112 : G1
  | [.rsl cxs xs0, .rsl cys ys0], [], k => match castE kc cxs xs0, castE kc cys ys0 with
    | some xs, some ys => br (decide (xs.length ≤ 1048576)) (k ⟨.val (.bool (eqR kc xs ys)), [], []⟩) False
    | _, _ => False
  | _, _, _ => False
noncomputable def E112 : Env := E0.of Try.f112
noncomputable def G112 : Gk := gk []
noncomputable def lp112 (n : Nat) : Code := (loopOf n (codeOf Try.f112)).getD .skip
noncomputable def ct112 (L : Lp) (R : Option Res → Prop) (n : Nat) : Kt := contOf E112 G112 L n (codeOf Try.f112) (endK E112 Try.f112.results.toList R)
noncomputable def rk112 (L : Lp) (R : Option Res → Prop) (n : Nat) (N : St → Prop) : Kt := rk (jof E112 (lp112 n)) N (ct112 L R n)
noncomputable def LOOP112 (L : Lp) (R : Option Res → Prop) (n : Nat) (st : St) : Prop := L (lp112 n) st (ct112 L R n)
theorem hg112 : HG Try.prog G112 := hg_nil
theorem okf112 : Ok Try.prog E112 := ok0.of Try.f112
theorem e112 (L : Lp) (R : Option Res → Prop) (xs ys : List (Elem kc)) : (bodyP E0 G112 L Try.f112 [.rsl kc xs, .rsl kc ys] [] R) = (
    br ((↑xs.length : Int) != (↑ys.length : Int)) (R (some { av := AV.val (Value.bool false), obs := [], outs := [] }))
      (LOOP112 L R 4
        {
          tm :=
            [AV.rsl
                [CK.str, CK.int IntKind.i64, CK.str, CK.int IntKind.i64, CK.int IntKind.i64, CK.int IntKind.i64,
                  CK.int IntKind.i64, CK.int IntKind.i64, CK.int IntKind.i64, CK.int IntKind.i64, CK.int IntKind.i64,
                  CK.int IntKind.i64, CK.int IntKind.i64, CK.int IntKind.i64, CK.int IntKind.i64, CK.int IntKind.i64,
                  CK.int IntKind.i64, CK.int IntKind.i64, CK.int IntKind.i64, CK.int IntKind.i64, CK.int IntKind.i64,
                  CK.int IntKind.i64, CK.int IntKind.i64, CK.int IntKind.i64, CK.int IntKind.i64, CK.int IntKind.i64,
                  CK.int IntKind.i64, CK.int IntKind.i64, CK.int IntKind.i64, CK.int IntKind.i64, CK.bool]
                xs,
              AV.rsl
                [CK.str, CK.int IntKind.i64, CK.str, CK.int IntKind.i64, CK.int IntKind.i64, CK.int IntKind.i64,
                  CK.int IntKind.i64, CK.int IntKind.i64, CK.int IntKind.i64, CK.int IntKind.i64, CK.int IntKind.i64,
                  CK.int IntKind.i64, CK.int IntKind.i64, CK.int IntKind.i64, CK.int IntKind.i64, CK.int IntKind.i64,
                  CK.int IntKind.i64, CK.int IntKind.i64, CK.int IntKind.i64, CK.int IntKind.i64, CK.int IntKind.i64,
                  CK.int IntKind.i64, CK.int IntKind.i64, CK.int IntKind.i64, CK.int IntKind.i64, CK.int IntKind.i64,
                  CK.int IntKind.i64, CK.int IntKind.i64, CK.int IntKind.i64, CK.int IntKind.i64, CK.bool]
                ys,
              AV.val (Value.tuple #[]), AV.val (Value.tuple #[]), AV.val (Value.bool false), AV.junk,
              AV.rsl
                [CK.str, CK.int IntKind.i64, CK.str, CK.int IntKind.i64, CK.int IntKind.i64, CK.int IntKind.i64,
                  CK.int IntKind.i64, CK.int IntKind.i64, CK.int IntKind.i64, CK.int IntKind.i64, CK.int IntKind.i64,
                  CK.int IntKind.i64, CK.int IntKind.i64, CK.int IntKind.i64, CK.int IntKind.i64, CK.int IntKind.i64,
                  CK.int IntKind.i64, CK.int IntKind.i64, CK.int IntKind.i64, CK.int IntKind.i64, CK.int IntKind.i64,
                  CK.int IntKind.i64, CK.int IntKind.i64, CK.int IntKind.i64, CK.int IntKind.i64, CK.int IntKind.i64,
                  CK.int IntKind.i64, CK.int IntKind.i64, CK.int IntKind.i64, CK.int IntKind.i64, CK.bool]
                xs,
              AV.val (Value.int IntKind.i64 (↑xs.length : Int)),
              AV.rsl
                [CK.str, CK.int IntKind.i64, CK.str, CK.int IntKind.i64, CK.int IntKind.i64, CK.int IntKind.i64,
                  CK.int IntKind.i64, CK.int IntKind.i64, CK.int IntKind.i64, CK.int IntKind.i64, CK.int IntKind.i64,
                  CK.int IntKind.i64, CK.int IntKind.i64, CK.int IntKind.i64, CK.int IntKind.i64, CK.int IntKind.i64,
                  CK.int IntKind.i64, CK.int IntKind.i64, CK.int IntKind.i64, CK.int IntKind.i64, CK.int IntKind.i64,
                  CK.int IntKind.i64, CK.int IntKind.i64, CK.int IntKind.i64, CK.int IntKind.i64, CK.int IntKind.i64,
                  CK.int IntKind.i64, CK.int IntKind.i64, CK.int IntKind.i64, CK.int IntKind.i64, CK.bool]
                ys,
              AV.val (Value.int IntKind.i64 (↑ys.length : Int)),
              AV.val (Value.bool ((↑xs.length : Int) != (↑ys.length : Int))),
              AV.rsl
                [CK.str, CK.int IntKind.i64, CK.str, CK.int IntKind.i64, CK.int IntKind.i64, CK.int IntKind.i64,
                  CK.int IntKind.i64, CK.int IntKind.i64, CK.int IntKind.i64, CK.int IntKind.i64, CK.int IntKind.i64,
                  CK.int IntKind.i64, CK.int IntKind.i64, CK.int IntKind.i64, CK.int IntKind.i64, CK.int IntKind.i64,
                  CK.int IntKind.i64, CK.int IntKind.i64, CK.int IntKind.i64, CK.int IntKind.i64, CK.int IntKind.i64,
                  CK.int IntKind.i64, CK.int IntKind.i64, CK.int IntKind.i64, CK.int IntKind.i64, CK.int IntKind.i64,
                  CK.int IntKind.i64, CK.int IntKind.i64, CK.int IntKind.i64, CK.int IntKind.i64, CK.bool]
                xs,
              AV.val (Value.int IntKind.i64 (↑xs.length : Int)), AV.val (Value.int IntKind.i64 0), AV.junk, AV.junk,
              AV.junk, AV.junk, AV.junk, AV.junk, AV.junk, AV.junk, AV.junk, AV.junk, AV.junk, AV.junk],
          ob := [], nx := 1000000, ps := [] })) := by kernel_rfl
def st112 (xs ys : List (Elem kc)) (i : Int) : St :=
  ⟨[AV.rsl [CK.str, CK.int IntKind.i64, CK.str, CK.int IntKind.i64, CK.int IntKind.i64, CK.int IntKind.i64, CK.int IntKind.i64, CK.int IntKind.i64, CK.int IntKind.i64, CK.int IntKind.i64, CK.int IntKind.i64, CK.int IntKind.i64, CK.int IntKind.i64, CK.int IntKind.i64, CK.int IntKind.i64, CK.int IntKind.i64, CK.int IntKind.i64, CK.int IntKind.i64, CK.int IntKind.i64, CK.int IntKind.i64, CK.int IntKind.i64, CK.int IntKind.i64, CK.int IntKind.i64, CK.int IntKind.i64, CK.int IntKind.i64, CK.int IntKind.i64, CK.int IntKind.i64, CK.int IntKind.i64, CK.int IntKind.i64, CK.int IntKind.i64, CK.bool] xs, AV.rsl [CK.str, CK.int IntKind.i64, CK.str, CK.int IntKind.i64, CK.int IntKind.i64, CK.int IntKind.i64, CK.int IntKind.i64, CK.int IntKind.i64, CK.int IntKind.i64, CK.int IntKind.i64, CK.int IntKind.i64, CK.int IntKind.i64, CK.int IntKind.i64, CK.int IntKind.i64, CK.int IntKind.i64, CK.int IntKind.i64, CK.int IntKind.i64, CK.int IntKind.i64, CK.int IntKind.i64, CK.int IntKind.i64, CK.int IntKind.i64, CK.int IntKind.i64, CK.int IntKind.i64, CK.int IntKind.i64, CK.int IntKind.i64, CK.int IntKind.i64, CK.int IntKind.i64, CK.int IntKind.i64, CK.int IntKind.i64, CK.int IntKind.i64, CK.bool] ys, AV.val (Value.tuple #[]), AV.val (Value.tuple #[]), AV.val (Value.bool false), AV.junk, AV.rsl [CK.str, CK.int IntKind.i64, CK.str, CK.int IntKind.i64, CK.int IntKind.i64, CK.int IntKind.i64, CK.int IntKind.i64, CK.int IntKind.i64, CK.int IntKind.i64, CK.int IntKind.i64, CK.int IntKind.i64, CK.int IntKind.i64, CK.int IntKind.i64, CK.int IntKind.i64, CK.int IntKind.i64, CK.int IntKind.i64, CK.int IntKind.i64, CK.int IntKind.i64, CK.int IntKind.i64, CK.int IntKind.i64, CK.int IntKind.i64, CK.int IntKind.i64, CK.int IntKind.i64, CK.int IntKind.i64, CK.int IntKind.i64, CK.int IntKind.i64, CK.int IntKind.i64, CK.int IntKind.i64, CK.int IntKind.i64, CK.int IntKind.i64, CK.bool] xs, AV.val (Value.int IntKind.i64 (↑xs.length : Int)), AV.rsl [CK.str, CK.int IntKind.i64, CK.str, CK.int IntKind.i64, CK.int IntKind.i64, CK.int IntKind.i64, CK.int IntKind.i64, CK.int IntKind.i64, CK.int IntKind.i64, CK.int IntKind.i64, CK.int IntKind.i64, CK.int IntKind.i64, CK.int IntKind.i64, CK.int IntKind.i64, CK.int IntKind.i64, CK.int IntKind.i64, CK.int IntKind.i64, CK.int IntKind.i64, CK.int IntKind.i64, CK.int IntKind.i64, CK.int IntKind.i64, CK.int IntKind.i64, CK.int IntKind.i64, CK.int IntKind.i64, CK.int IntKind.i64, CK.int IntKind.i64, CK.int IntKind.i64, CK.int IntKind.i64, CK.int IntKind.i64, CK.int IntKind.i64, CK.bool] ys, AV.val (Value.int IntKind.i64 (↑ys.length : Int)), AV.val (Value.bool ((↑xs.length : Int) != (↑ys.length : Int))), AV.rsl [CK.str, CK.int IntKind.i64, CK.str, CK.int IntKind.i64, CK.int IntKind.i64, CK.int IntKind.i64, CK.int IntKind.i64, CK.int IntKind.i64, CK.int IntKind.i64, CK.int IntKind.i64, CK.int IntKind.i64, CK.int IntKind.i64, CK.int IntKind.i64, CK.int IntKind.i64, CK.int IntKind.i64, CK.int IntKind.i64, CK.int IntKind.i64, CK.int IntKind.i64, CK.int IntKind.i64, CK.int IntKind.i64, CK.int IntKind.i64, CK.int IntKind.i64, CK.int IntKind.i64, CK.int IntKind.i64, CK.int IntKind.i64, CK.int IntKind.i64, CK.int IntKind.i64, CK.int IntKind.i64, CK.int IntKind.i64, CK.int IntKind.i64, CK.bool] xs, AV.val (Value.int IntKind.i64 (↑xs.length : Int)), .val (.int .i64 i), AV.junk, AV.junk, AV.junk, AV.junk, AV.junk, AV.junk, AV.junk, AV.junk, AV.junk, AV.junk, AV.junk, AV.junk],
    [], 1000000, []⟩
theorem b112 (L : Lp) (R : Option Res → Prop) (N : St → Prop) (xs ys : List (Elem kc)) (i : Int) : (evP E112 G112 L (lp112 4) (st112 xs ys i) (rk112 L R 4 N)) = (
    br (decide (i < (↑xs.length : Int)))
      (br (decide (0 ≤ i ∧ i < (↑xs.length : Int)))
        (br (decide (0 ≤ i ∧ i < (↑ys.length : Int)))
          (br
            (!elemEq
                [CK.str, CK.int IntKind.i64, CK.str, CK.int IntKind.i64, CK.int IntKind.i64, CK.int IntKind.i64,
                        CK.int IntKind.i64, CK.int IntKind.i64, CK.int IntKind.i64, CK.int IntKind.i64, CK.int IntKind.i64,
                        CK.int IntKind.i64, CK.int IntKind.i64, CK.int IntKind.i64, CK.int IntKind.i64, CK.int IntKind.i64,
                        CK.int IntKind.i64, CK.int IntKind.i64, CK.int IntKind.i64, CK.int IntKind.i64, CK.int IntKind.i64,
                        CK.int IntKind.i64, CK.int IntKind.i64, CK.int IntKind.i64, CK.int IntKind.i64, CK.int IntKind.i64,
                        CK.int IntKind.i64, CK.int IntKind.i64, CK.int IntKind.i64, CK.int IntKind.i64, CK.bool]
                (xs.getD i.toNat
                  (edflt
                    [CK.str, CK.int IntKind.i64, CK.str, CK.int IntKind.i64, CK.int IntKind.i64, CK.int IntKind.i64,
                      CK.int IntKind.i64, CK.int IntKind.i64, CK.int IntKind.i64, CK.int IntKind.i64, CK.int IntKind.i64,
                      CK.int IntKind.i64, CK.int IntKind.i64, CK.int IntKind.i64, CK.int IntKind.i64, CK.int IntKind.i64,
                      CK.int IntKind.i64, CK.int IntKind.i64, CK.int IntKind.i64, CK.int IntKind.i64, CK.int IntKind.i64,
                      CK.int IntKind.i64, CK.int IntKind.i64, CK.int IntKind.i64, CK.int IntKind.i64, CK.int IntKind.i64,
                      CK.int IntKind.i64, CK.int IntKind.i64, CK.int IntKind.i64, CK.int IntKind.i64, CK.bool]))
                (ys.getD i.toNat
                  (edflt
                    [CK.str, CK.int IntKind.i64, CK.str, CK.int IntKind.i64, CK.int IntKind.i64, CK.int IntKind.i64,
                      CK.int IntKind.i64, CK.int IntKind.i64, CK.int IntKind.i64, CK.int IntKind.i64, CK.int IntKind.i64,
                      CK.int IntKind.i64, CK.int IntKind.i64, CK.int IntKind.i64, CK.int IntKind.i64, CK.int IntKind.i64,
                      CK.int IntKind.i64, CK.int IntKind.i64, CK.int IntKind.i64, CK.int IntKind.i64, CK.int IntKind.i64,
                      CK.int IntKind.i64, CK.int IntKind.i64, CK.int IntKind.i64, CK.int IntKind.i64, CK.int IntKind.i64,
                      CK.int IntKind.i64, CK.int IntKind.i64, CK.int IntKind.i64, CK.int IntKind.i64, CK.bool])))
            (R (some { av := AV.val (Value.bool false), obs := [], outs := [] }))
            (N
              {
                tm :=
                  [AV.rsl
                      [CK.str, CK.int IntKind.i64, CK.str, CK.int IntKind.i64, CK.int IntKind.i64, CK.int IntKind.i64,
                        CK.int IntKind.i64, CK.int IntKind.i64, CK.int IntKind.i64, CK.int IntKind.i64, CK.int IntKind.i64,
                        CK.int IntKind.i64, CK.int IntKind.i64, CK.int IntKind.i64, CK.int IntKind.i64, CK.int IntKind.i64,
                        CK.int IntKind.i64, CK.int IntKind.i64, CK.int IntKind.i64, CK.int IntKind.i64, CK.int IntKind.i64,
                        CK.int IntKind.i64, CK.int IntKind.i64, CK.int IntKind.i64, CK.int IntKind.i64, CK.int IntKind.i64,
                        CK.int IntKind.i64, CK.int IntKind.i64, CK.int IntKind.i64, CK.int IntKind.i64, CK.bool]
                      xs,
                    AV.rsl
                      [CK.str, CK.int IntKind.i64, CK.str, CK.int IntKind.i64, CK.int IntKind.i64, CK.int IntKind.i64,
                        CK.int IntKind.i64, CK.int IntKind.i64, CK.int IntKind.i64, CK.int IntKind.i64, CK.int IntKind.i64,
                        CK.int IntKind.i64, CK.int IntKind.i64, CK.int IntKind.i64, CK.int IntKind.i64, CK.int IntKind.i64,
                        CK.int IntKind.i64, CK.int IntKind.i64, CK.int IntKind.i64, CK.int IntKind.i64, CK.int IntKind.i64,
                        CK.int IntKind.i64, CK.int IntKind.i64, CK.int IntKind.i64, CK.int IntKind.i64, CK.int IntKind.i64,
                        CK.int IntKind.i64, CK.int IntKind.i64, CK.int IntKind.i64, CK.int IntKind.i64, CK.bool]
                      ys,
                    AV.val (Value.tuple #[]), AV.val (Value.tuple #[]), AV.val (Value.bool false), AV.junk,
                    AV.rsl
                      [CK.str, CK.int IntKind.i64, CK.str, CK.int IntKind.i64, CK.int IntKind.i64, CK.int IntKind.i64,
                        CK.int IntKind.i64, CK.int IntKind.i64, CK.int IntKind.i64, CK.int IntKind.i64, CK.int IntKind.i64,
                        CK.int IntKind.i64, CK.int IntKind.i64, CK.int IntKind.i64, CK.int IntKind.i64, CK.int IntKind.i64,
                        CK.int IntKind.i64, CK.int IntKind.i64, CK.int IntKind.i64, CK.int IntKind.i64, CK.int IntKind.i64,
                        CK.int IntKind.i64, CK.int IntKind.i64, CK.int IntKind.i64, CK.int IntKind.i64, CK.int IntKind.i64,
                        CK.int IntKind.i64, CK.int IntKind.i64, CK.int IntKind.i64, CK.int IntKind.i64, CK.bool]
                      xs,
                    AV.val (Value.int IntKind.i64 (↑xs.length : Int)),
                    AV.rsl
                      [CK.str, CK.int IntKind.i64, CK.str, CK.int IntKind.i64, CK.int IntKind.i64, CK.int IntKind.i64,
                        CK.int IntKind.i64, CK.int IntKind.i64, CK.int IntKind.i64, CK.int IntKind.i64, CK.int IntKind.i64,
                        CK.int IntKind.i64, CK.int IntKind.i64, CK.int IntKind.i64, CK.int IntKind.i64, CK.int IntKind.i64,
                        CK.int IntKind.i64, CK.int IntKind.i64, CK.int IntKind.i64, CK.int IntKind.i64, CK.int IntKind.i64,
                        CK.int IntKind.i64, CK.int IntKind.i64, CK.int IntKind.i64, CK.int IntKind.i64, CK.int IntKind.i64,
                        CK.int IntKind.i64, CK.int IntKind.i64, CK.int IntKind.i64, CK.int IntKind.i64, CK.bool]
                      ys,
                    AV.val (Value.int IntKind.i64 (↑ys.length : Int)),
                    AV.val (Value.bool ((↑xs.length : Int) != (↑ys.length : Int))),
                    AV.rsl
                      [CK.str, CK.int IntKind.i64, CK.str, CK.int IntKind.i64, CK.int IntKind.i64, CK.int IntKind.i64,
                        CK.int IntKind.i64, CK.int IntKind.i64, CK.int IntKind.i64, CK.int IntKind.i64, CK.int IntKind.i64,
                        CK.int IntKind.i64, CK.int IntKind.i64, CK.int IntKind.i64, CK.int IntKind.i64, CK.int IntKind.i64,
                        CK.int IntKind.i64, CK.int IntKind.i64, CK.int IntKind.i64, CK.int IntKind.i64, CK.int IntKind.i64,
                        CK.int IntKind.i64, CK.int IntKind.i64, CK.int IntKind.i64, CK.int IntKind.i64, CK.int IntKind.i64,
                        CK.int IntKind.i64, CK.int IntKind.i64, CK.int IntKind.i64, CK.int IntKind.i64, CK.bool]
                      xs,
                    AV.val (Value.int IntKind.i64 (↑xs.length : Int)),
                    AV.val (Value.int IntKind.i64 (IntKind.i64.wrap (i + 1))), AV.junk, AV.junk, AV.junk, AV.junk, AV.junk,
                    AV.junk, AV.junk, AV.junk, AV.junk, AV.junk, AV.junk, AV.junk],
                ob := [], nx := 1000000, ps := [] }))
          False)
        False)
      (R (some { av := AV.val (Value.bool true), obs := [], outs := [] }))) := by kernel_rfl
theorem h112 : G1Ok Try.prog 112 g112 := by
  intro args obs k h
  unfold g112 at h
  split at h
  · rename_i k cxs xs0 cys ys0
    split at h
    rotate_left
    · exact h.elim
    rename_i xs ys hxs hys
    cases castE_inv hxs
    cases castE_inv hys
    obtain ⟨hlen, h⟩ := brd h
    refine ⟨_, ctr_fn ok0 hg112 Try.func112 (by kernel_rfl) (by kernel_rfl) (by kernel_rfl) fun C => ?_, h⟩
    rw [e112]
    refine br_intro (fun hb => ?_) (fun hb => ?_)
    · show _ = _
      rw [show eqR kc xs ys = false from eqL_len (fun e => by rw [e] at hb; simp at hb)]
    have hl : xs.length = ys.length := by simp at hb; omega
    exact loopAll okf112 hg112 (fun i => st112 xs ys i) xs.length (fun i => elemEq kc (xs.getD i (edflt kc)) (ys.getD i (edflt kc))) (by omega) (fun N i hi hw next fails done => by
      show evP E112 G112 _ (lp112 4) (st112 xs ys i) (rk112 _ _ 4 _)
      rw [b112, hw, Int.toNat_natCast]
      refine br_dec (fun h2 => br_yes ⟨by omega, h2⟩ (br_yes ⟨by omega, by omega⟩ (br_not (fun h3 => ?_) (fun h3 => ?_)))) (fun h2 => ?_)
      · show _ = _
        rw [show eqR kc xs ys = false from (eqL_of hl).trans (fails (by omega) h3)]
      · exact next (by omega) h3
      · show _ = _
        rw [show eqR kc xs ys = true from (eqL_of hl).trans (done (by omega))])
  · exact h.elim
def g113 : G1
  | [.rsl [.int .i64, .int .i64, .int .i64] xs, .rsl [.int .i64, .int .i64, .int .i64] ys], [], k => br (decide (xs.length ≤ 1048576)) (k ⟨.val (.bool (eqR k3 xs ys)), [], []⟩) False
  | _, _, _ => False
noncomputable def E113 : Env := E0.of Try.f113
noncomputable def G113 : Gk := gk []
noncomputable def lp113 (n : Nat) : Code := (loopOf n (codeOf Try.f113)).getD .skip
noncomputable def ct113 (L : Lp) (R : Option Res → Prop) (n : Nat) : Kt := contOf E113 G113 L n (codeOf Try.f113) (endK E113 Try.f113.results.toList R)
noncomputable def rk113 (L : Lp) (R : Option Res → Prop) (n : Nat) (N : St → Prop) : Kt := rk (jof E113 (lp113 n)) N (ct113 L R n)
noncomputable def LOOP113 (L : Lp) (R : Option Res → Prop) (n : Nat) (st : St) : Prop := L (lp113 n) st (ct113 L R n)
theorem hg113 : HG Try.prog G113 := hg_nil
theorem okf113 : Ok Try.prog E113 := ok0.of Try.f113
theorem e113 (L : Lp) (R : Option Res → Prop) (xs ys : List (Elem k3)) : (bodyP E0 G113 L Try.f113 [.rsl k3 xs, .rsl k3 ys] [] R) = (
    br ((↑xs.length : Int) != (↑ys.length : Int)) (R (some { av := AV.val (Value.bool false), obs := [], outs := [] }))
      (LOOP113 L R 4
        {
          tm :=
            [AV.rsl [CK.int IntKind.i64, CK.int IntKind.i64, CK.int IntKind.i64] xs,
              AV.rsl [CK.int IntKind.i64, CK.int IntKind.i64, CK.int IntKind.i64] ys, AV.val (Value.tuple #[]),
              AV.val (Value.tuple #[]), AV.val (Value.bool false), AV.junk,
              AV.rsl [CK.int IntKind.i64, CK.int IntKind.i64, CK.int IntKind.i64] xs,
              AV.val (Value.int IntKind.i64 (↑xs.length : Int)),
              AV.rsl [CK.int IntKind.i64, CK.int IntKind.i64, CK.int IntKind.i64] ys,
              AV.val (Value.int IntKind.i64 (↑ys.length : Int)),
              AV.val (Value.bool ((↑xs.length : Int) != (↑ys.length : Int))),
              AV.rsl [CK.int IntKind.i64, CK.int IntKind.i64, CK.int IntKind.i64] xs,
              AV.val (Value.int IntKind.i64 (↑xs.length : Int)), AV.val (Value.int IntKind.i64 0), AV.junk, AV.junk,
              AV.junk, AV.junk, AV.junk, AV.junk, AV.junk, AV.junk, AV.junk, AV.junk, AV.junk, AV.junk],
          ob := [], nx := 1000000, ps := [] })) := by kernel_rfl
def st113 (xs ys : List (Elem k3)) (i : Int) : St :=
  ⟨[AV.rsl [CK.int IntKind.i64, CK.int IntKind.i64, CK.int IntKind.i64] xs, AV.rsl [CK.int IntKind.i64, CK.int IntKind.i64, CK.int IntKind.i64] ys, AV.val (Value.tuple #[]), AV.val (Value.tuple #[]), AV.val (Value.bool false), AV.junk, AV.rsl [CK.int IntKind.i64, CK.int IntKind.i64, CK.int IntKind.i64] xs, AV.val (Value.int IntKind.i64 (↑xs.length : Int)), AV.rsl [CK.int IntKind.i64, CK.int IntKind.i64, CK.int IntKind.i64] ys, AV.val (Value.int IntKind.i64 (↑ys.length : Int)), AV.val (Value.bool ((↑xs.length : Int) != (↑ys.length : Int))), AV.rsl [CK.int IntKind.i64, CK.int IntKind.i64, CK.int IntKind.i64] xs, AV.val (Value.int IntKind.i64 (↑xs.length : Int)), .val (.int .i64 i), AV.junk, AV.junk, AV.junk, AV.junk, AV.junk, AV.junk, AV.junk, AV.junk, AV.junk, AV.junk, AV.junk, AV.junk],
    [], 1000000, []⟩
theorem b113 (L : Lp) (R : Option Res → Prop) (N : St → Prop) (xs ys : List (Elem k3)) (i : Int) : (evP E113 G113 L (lp113 4) (st113 xs ys i) (rk113 L R 4 N)) = (
    br (decide (i < (↑xs.length : Int)))
      (br (decide (0 ≤ i ∧ i < (↑xs.length : Int)))
        (br (decide (0 ≤ i ∧ i < (↑ys.length : Int)))
          (br
            (!elemEq
                [CK.int IntKind.i64, CK.int IntKind.i64, CK.int IntKind.i64]
                (xs.getD i.toNat (edflt [CK.int IntKind.i64, CK.int IntKind.i64, CK.int IntKind.i64]))
                (ys.getD i.toNat (edflt [CK.int IntKind.i64, CK.int IntKind.i64, CK.int IntKind.i64])))
            (R (some { av := AV.val (Value.bool false), obs := [], outs := [] }))
            (N
              {
                tm :=
                  [AV.rsl [CK.int IntKind.i64, CK.int IntKind.i64, CK.int IntKind.i64] xs,
                    AV.rsl [CK.int IntKind.i64, CK.int IntKind.i64, CK.int IntKind.i64] ys, AV.val (Value.tuple #[]),
                    AV.val (Value.tuple #[]), AV.val (Value.bool false), AV.junk,
                    AV.rsl [CK.int IntKind.i64, CK.int IntKind.i64, CK.int IntKind.i64] xs,
                    AV.val (Value.int IntKind.i64 (↑xs.length : Int)),
                    AV.rsl [CK.int IntKind.i64, CK.int IntKind.i64, CK.int IntKind.i64] ys,
                    AV.val (Value.int IntKind.i64 (↑ys.length : Int)),
                    AV.val (Value.bool ((↑xs.length : Int) != (↑ys.length : Int))),
                    AV.rsl [CK.int IntKind.i64, CK.int IntKind.i64, CK.int IntKind.i64] xs,
                    AV.val (Value.int IntKind.i64 (↑xs.length : Int)),
                    AV.val (Value.int IntKind.i64 (IntKind.i64.wrap (i + 1))), AV.junk, AV.junk, AV.junk, AV.junk, AV.junk,
                    AV.junk, AV.junk, AV.junk, AV.junk, AV.junk, AV.junk, AV.junk],
                ob := [], nx := 1000000, ps := [] }))
          False)
        False)
      (R (some { av := AV.val (Value.bool true), obs := [], outs := [] }))) := by kernel_rfl
theorem h113 : G1Ok Try.prog 113 g113 := by
  intro args obs k h
  unfold g113 at h
  split at h
  · rename_i k xs ys
    obtain ⟨hlen, h⟩ := brd h
    refine ⟨_, ctr_fn ok0 hg113 Try.func113 (by kernel_rfl) (by kernel_rfl) (by kernel_rfl) fun C => ?_, h⟩
    rw [e113]
    refine br_intro (fun hb => ?_) (fun hb => ?_)
    · show _ = _
      rw [show eqR k3 xs ys = false from eqL_len (fun e => by rw [e] at hb; simp at hb)]
    have hl : xs.length = ys.length := by simp at hb; omega
    exact loopAll okf113 hg113 (fun i => st113 xs ys i) xs.length (fun i => elemEq k3 (xs.getD i (edflt k3)) (ys.getD i (edflt k3))) (by omega) (fun N i hi hw next fails done => by
      show evP E113 G113 _ (lp113 4) (st113 xs ys i) (rk113 _ _ 4 _)
      rw [b113, hw, Int.toNat_natCast]
      refine br_dec (fun h2 => br_yes ⟨by omega, h2⟩ (br_yes ⟨by omega, by omega⟩ (br_not (fun h3 => ?_) (fun h3 => ?_)))) (fun h2 => ?_)
      · show _ = _
        rw [show eqR k3 xs ys = false from (eqL_of hl).trans (fails (by omega) h3)]
      · exact next (by omega) h3
      · show _ = _
        rw [show eqR k3 xs ys = true from (eqL_of hl).trans (done (by omega))])
  · exact h.elim
def g114 : G1
  | [.rsl [.int .i64, .int .i64, .int .i64] xs, .rsl [.int .i64, .int .i64, .int .i64] ys], [], k => br (decide (xs.length ≤ 1048576)) (k ⟨.val (.bool (eqR k3 xs ys)), [], []⟩) False
  | _, _, _ => False
noncomputable def E114 : Env := E0.of Try.f114
noncomputable def G114 : Gk := gk []
noncomputable def lp114 (n : Nat) : Code := (loopOf n (codeOf Try.f114)).getD .skip
noncomputable def ct114 (L : Lp) (R : Option Res → Prop) (n : Nat) : Kt := contOf E114 G114 L n (codeOf Try.f114) (endK E114 Try.f114.results.toList R)
noncomputable def rk114 (L : Lp) (R : Option Res → Prop) (n : Nat) (N : St → Prop) : Kt := rk (jof E114 (lp114 n)) N (ct114 L R n)
noncomputable def LOOP114 (L : Lp) (R : Option Res → Prop) (n : Nat) (st : St) : Prop := L (lp114 n) st (ct114 L R n)
theorem hg114 : HG Try.prog G114 := hg_nil
theorem okf114 : Ok Try.prog E114 := ok0.of Try.f114
theorem e114 (L : Lp) (R : Option Res → Prop) (xs ys : List (Elem k3)) : (bodyP E0 G114 L Try.f114 [.rsl k3 xs, .rsl k3 ys] [] R) = (
    br ((↑xs.length : Int) != (↑ys.length : Int)) (R (some { av := AV.val (Value.bool false), obs := [], outs := [] }))
      (LOOP114 L R 4
        {
          tm :=
            [AV.rsl [CK.int IntKind.i64, CK.int IntKind.i64, CK.int IntKind.i64] xs,
              AV.rsl [CK.int IntKind.i64, CK.int IntKind.i64, CK.int IntKind.i64] ys, AV.val (Value.tuple #[]),
              AV.val (Value.tuple #[]), AV.val (Value.bool false), AV.junk,
              AV.rsl [CK.int IntKind.i64, CK.int IntKind.i64, CK.int IntKind.i64] xs,
              AV.val (Value.int IntKind.i64 (↑xs.length : Int)),
              AV.rsl [CK.int IntKind.i64, CK.int IntKind.i64, CK.int IntKind.i64] ys,
              AV.val (Value.int IntKind.i64 (↑ys.length : Int)),
              AV.val (Value.bool ((↑xs.length : Int) != (↑ys.length : Int))),
              AV.rsl [CK.int IntKind.i64, CK.int IntKind.i64, CK.int IntKind.i64] xs,
              AV.val (Value.int IntKind.i64 (↑xs.length : Int)), AV.val (Value.int IntKind.i64 0), AV.junk, AV.junk,
              AV.junk, AV.junk, AV.junk, AV.junk, AV.junk, AV.junk, AV.junk, AV.junk, AV.junk, AV.junk],
          ob := [], nx := 1000000, ps := [] })) := by kernel_rfl
def st114 (xs ys : List (Elem k3)) (i : Int) : St :=
  ⟨[AV.rsl [CK.int IntKind.i64, CK.int IntKind.i64, CK.int IntKind.i64] xs, AV.rsl [CK.int IntKind.i64, CK.int IntKind.i64, CK.int IntKind.i64] ys, AV.val (Value.tuple #[]), AV.val (Value.tuple #[]), AV.val (Value.bool false), AV.junk, AV.rsl [CK.int IntKind.i64, CK.int IntKind.i64, CK.int IntKind.i64] xs, AV.val (Value.int IntKind.i64 (↑xs.length : Int)), AV.rsl [CK.int IntKind.i64, CK.int IntKind.i64, CK.int IntKind.i64] ys, AV.val (Value.int IntKind.i64 (↑ys.length : Int)), AV.val (Value.bool ((↑xs.length : Int) != (↑ys.length : Int))), AV.rsl [CK.int IntKind.i64, CK.int IntKind.i64, CK.int IntKind.i64] xs, AV.val (Value.int IntKind.i64 (↑xs.length : Int)), .val (.int .i64 i), AV.junk, AV.junk, AV.junk, AV.junk, AV.junk, AV.junk, AV.junk, AV.junk, AV.junk, AV.junk, AV.junk, AV.junk],
    [], 1000000, []⟩
theorem b114 (L : Lp) (R : Option Res → Prop) (N : St → Prop) (xs ys : List (Elem k3)) (i : Int) : (evP E114 G114 L (lp114 4) (st114 xs ys i) (rk114 L R 4 N)) = (
    br (decide (i < (↑xs.length : Int)))
      (br (decide (0 ≤ i ∧ i < (↑xs.length : Int)))
        (br (decide (0 ≤ i ∧ i < (↑ys.length : Int)))
          (br
            (!elemEq
                [CK.int IntKind.i64, CK.int IntKind.i64, CK.int IntKind.i64]
                (xs.getD i.toNat (edflt [CK.int IntKind.i64, CK.int IntKind.i64, CK.int IntKind.i64]))
                (ys.getD i.toNat (edflt [CK.int IntKind.i64, CK.int IntKind.i64, CK.int IntKind.i64])))
            (R (some { av := AV.val (Value.bool false), obs := [], outs := [] }))
            (N
              {
                tm :=
                  [AV.rsl [CK.int IntKind.i64, CK.int IntKind.i64, CK.int IntKind.i64] xs,
                    AV.rsl [CK.int IntKind.i64, CK.int IntKind.i64, CK.int IntKind.i64] ys, AV.val (Value.tuple #[]),
                    AV.val (Value.tuple #[]), AV.val (Value.bool false), AV.junk,
                    AV.rsl [CK.int IntKind.i64, CK.int IntKind.i64, CK.int IntKind.i64] xs,
                    AV.val (Value.int IntKind.i64 (↑xs.length : Int)),
                    AV.rsl [CK.int IntKind.i64, CK.int IntKind.i64, CK.int IntKind.i64] ys,
                    AV.val (Value.int IntKind.i64 (↑ys.length : Int)),
                    AV.val (Value.bool ((↑xs.length : Int) != (↑ys.length : Int))),
                    AV.rsl [CK.int IntKind.i64, CK.int IntKind.i64, CK.int IntKind.i64] xs,
                    AV.val (Value.int IntKind.i64 (↑xs.length : Int)),
                    AV.val (Value.int IntKind.i64 (IntKind.i64.wrap (i + 1))), AV.junk, AV.junk, AV.junk, AV.junk, AV.junk,
                    AV.junk, AV.junk, AV.junk, AV.junk, AV.junk, AV.junk, AV.junk],
                ob := [], nx := 1000000, ps := [] }))
          False)
        False)
      (R (some { av := AV.val (Value.bool true), obs := [], outs := [] }))) := by kernel_rfl
theorem h114 : G1Ok Try.prog 114 g114 := by
  intro args obs k h
  unfold g114 at h
  split at h
  · rename_i k xs ys
    obtain ⟨hlen, h⟩ := brd h
    refine ⟨_, ctr_fn ok0 hg114 Try.func114 (by kernel_rfl) (by kernel_rfl) (by kernel_rfl) fun C => ?_, h⟩
    rw [e114]
    refine br_intro (fun hb => ?_) (fun hb => ?_)
    · show _ = _
      rw [show eqR k3 xs ys = false from eqL_len (fun e => by rw [e] at hb; simp at hb)]
    have hl : xs.length = ys.length := by simp at hb; omega
    exact loopAll okf114 hg114 (fun i => st114 xs ys i) xs.length (fun i => elemEq k3 (xs.getD i (edflt k3)) (ys.getD i (edflt k3))) (by omega) (fun N i hi hw next fails done => by
      show evP E114 G114 _ (lp114 4) (st114 xs ys i) (rk114 _ _ 4 _)
      rw [b114, hw, Int.toNat_natCast]
      refine br_dec (fun h2 => br_yes ⟨by omega, h2⟩ (br_yes ⟨by omega, by omega⟩ (br_not (fun h3 => ?_) (fun h3 => ?_)))) (fun h2 => ?_)
      · show _ = _
        rw [show eqR k3 xs ys = false from (eqL_of hl).trans (fails (by omega) h3)]
      · exact next (by omega) h3
      · show _ = _
        rw [show eqR k3 xs ys = true from (eqL_of hl).trans (done (by omega))])
  · exact h.elim
def g115 : G1
  | [.rsl [.int .i64] xs, .rsl [.int .i64] ys], [], k => br (decide (xs.length ≤ 1048576)) (k ⟨.val (.bool (eqR ki xs ys)), [], []⟩) False
  | _, _, _ => False
noncomputable def E115 : Env := E0.of Try.f115
noncomputable def G115 : Gk := gk []
noncomputable def lp115 (n : Nat) : Code := (loopOf n (codeOf Try.f115)).getD .skip
noncomputable def ct115 (L : Lp) (R : Option Res → Prop) (n : Nat) : Kt := contOf E115 G115 L n (codeOf Try.f115) (endK E115 Try.f115.results.toList R)
noncomputable def rk115 (L : Lp) (R : Option Res → Prop) (n : Nat) (N : St → Prop) : Kt := rk (jof E115 (lp115 n)) N (ct115 L R n)
noncomputable def LOOP115 (L : Lp) (R : Option Res → Prop) (n : Nat) (st : St) : Prop := L (lp115 n) st (ct115 L R n)
theorem hg115 : HG Try.prog G115 := hg_nil
theorem okf115 : Ok Try.prog E115 := ok0.of Try.f115
theorem e115 (L : Lp) (R : Option Res → Prop) (xs ys : List (Elem ki)) : (bodyP E0 G115 L Try.f115 [.rsl ki xs, .rsl ki ys] [] R) = (
    br ((↑xs.length : Int) != (↑ys.length : Int)) (R (some { av := AV.val (Value.bool false), obs := [], outs := [] }))
      (LOOP115 L R 4
        {
          tm :=
            [AV.rsl [CK.int IntKind.i64] xs, AV.rsl [CK.int IntKind.i64] ys, AV.val (Value.tuple #[]),
              AV.val (Value.tuple #[]), AV.val (Value.bool false), AV.junk, AV.rsl [CK.int IntKind.i64] xs,
              AV.val (Value.int IntKind.i64 (↑xs.length : Int)), AV.rsl [CK.int IntKind.i64] ys,
              AV.val (Value.int IntKind.i64 (↑ys.length : Int)),
              AV.val (Value.bool ((↑xs.length : Int) != (↑ys.length : Int))), AV.rsl [CK.int IntKind.i64] xs,
              AV.val (Value.int IntKind.i64 (↑xs.length : Int)), AV.val (Value.int IntKind.i64 0), AV.junk, AV.junk,
              AV.junk, AV.junk, AV.junk, AV.junk, AV.junk, AV.junk, AV.junk, AV.junk, AV.junk, AV.junk],
          ob := [], nx := 1000000, ps := [] })) := by kernel_rfl
def st115 (xs ys : List (Elem ki)) (i : Int) : St :=
  ⟨[AV.rsl [CK.int IntKind.i64] xs, AV.rsl [CK.int IntKind.i64] ys, AV.val (Value.tuple #[]), AV.val (Value.tuple #[]), AV.val (Value.bool false), AV.junk, AV.rsl [CK.int IntKind.i64] xs, AV.val (Value.int IntKind.i64 (↑xs.length : Int)), AV.rsl [CK.int IntKind.i64] ys, AV.val (Value.int IntKind.i64 (↑ys.length : Int)), AV.val (Value.bool ((↑xs.length : Int) != (↑ys.length : Int))), AV.rsl [CK.int IntKind.i64] xs, AV.val (Value.int IntKind.i64 (↑xs.length : Int)), .val (.int .i64 i), AV.junk, AV.junk, AV.junk, AV.junk, AV.junk, AV.junk, AV.junk, AV.junk, AV.junk, AV.junk, AV.junk, AV.junk],
    [], 1000000, []⟩
theorem b115 (L : Lp) (R : Option Res → Prop) (N : St → Prop) (xs ys : List (Elem ki)) (i : Int) : (evP E115 G115 L (lp115 4) (st115 xs ys i) (rk115 L R 4 N)) = (
    br (decide (i < (↑xs.length : Int)))
      (br (decide (0 ≤ i ∧ i < (↑xs.length : Int)))
        (br (decide (0 ≤ i ∧ i < (↑ys.length : Int)))
          (br ((xs.getD i.toNat (edflt [CK.int IntKind.i64])).fst != (ys.getD i.toNat (edflt [CK.int IntKind.i64])).fst)
            (R (some { av := AV.val (Value.bool false), obs := [], outs := [] }))
            (N
              {
                tm :=
                  [AV.rsl [CK.int IntKind.i64] xs, AV.rsl [CK.int IntKind.i64] ys, AV.val (Value.tuple #[]),
                    AV.val (Value.tuple #[]), AV.val (Value.bool false), AV.junk, AV.rsl [CK.int IntKind.i64] xs,
                    AV.val (Value.int IntKind.i64 (↑xs.length : Int)), AV.rsl [CK.int IntKind.i64] ys,
                    AV.val (Value.int IntKind.i64 (↑ys.length : Int)),
                    AV.val (Value.bool ((↑xs.length : Int) != (↑ys.length : Int))), AV.rsl [CK.int IntKind.i64] xs,
                    AV.val (Value.int IntKind.i64 (↑xs.length : Int)),
                    AV.val (Value.int IntKind.i64 (IntKind.i64.wrap (i + 1))), AV.junk, AV.junk, AV.junk, AV.junk, AV.junk,
                    AV.junk, AV.junk, AV.junk, AV.junk, AV.junk, AV.junk, AV.junk],
                ob := [], nx := 1000000, ps := [] }))
          False)
        False)
      (R (some { av := AV.val (Value.bool true), obs := [], outs := [] }))) := by kernel_rfl
theorem h115 : G1Ok Try.prog 115 g115 := by
  intro args obs k h
  unfold g115 at h
  split at h
  · rename_i k xs ys
    obtain ⟨hlen, h⟩ := brd h
    refine ⟨_, ctr_fn ok0 hg115 Try.func115 (by kernel_rfl) (by kernel_rfl) (by kernel_rfl) fun C => ?_, h⟩
    rw [e115]
    refine br_intro (fun hb => ?_) (fun hb => ?_)
    · show _ = _
      rw [show eqR ki xs ys = false from eqL_len (fun e => by rw [e] at hb; simp at hb)]
    have hl : xs.length = ys.length := by simp at hb; omega
    exact loopAll okf115 hg115 (fun i => st115 xs ys i) xs.length (fun i => elemEq ki (xs.getD i (edflt ki)) (ys.getD i (edflt ki))) (by omega) (fun N i hi hw next fails done => by
      show evP E115 G115 _ (lp115 4) (st115 xs ys i) (rk115 _ _ 4 _)
      rw [b115, hw, Int.toNat_natCast]
      refine br_dec (fun h2 => br_yes ⟨by omega, h2⟩ (br_yes ⟨by omega, by omega⟩ (br_not (fun h3 => ?_) (fun h3 => ?_)))) (fun h2 => ?_)
      · show _ = _
        rw [show eqR ki xs ys = false from (eqL_of hl).trans (fails (by omega) h3)]
      · exact next (by omega) h3
      · show _ = _
        rw [show eqR ki xs ys = true from (eqL_of hl).trans (done (by omega))])
  · exact h.elim
noncomputable def E61 : Env := E0.of Try.f61
noncomputable def G61 : Gk := gk [(112, g112), (113, g113), (114, g114), (115, g115)]
noncomputable def lp61 (n : Nat) : Code := (loopOf n (codeOf Try.f61)).getD .skip
noncomputable def ct61 (L : Lp) (R : Option Res → Prop) (n : Nat) : Kt := contOf E61 G61 L n (codeOf Try.f61) (endK E61 Try.f61.results.toList R)
noncomputable def rk61 (L : Lp) (R : Option Res → Prop) (n : Nat) (N : St → Prop) : Kt := rk (jof E61 (lp61 n)) N (ct61 L R n)
noncomputable def LOOP61 (L : Lp) (R : Option Res → Prop) (n : Nat) (st : St) : Prop := L (lp61 n) st (ct61 L R n)
theorem hg61 : HG Try.prog G61 := (hg_cons h112 (hg_cons h113 (hg_cons h114 (hg_cons h115 hg_nil))))
theorem okf61 : Ok Try.prog E61 := ok0.of Try.f61
theorem e61 (L : Lp) (R : Option Res → Prop) (x : Int) (s : List (Elem kc)) (d p : List (Elem k3)) (b : Bool) (f : List (Elem ki)) (n : Int) (x' : Int) (s' : List (Elem kc)) (d' p' : List (Elem k3)) (b' : Bool) (f' : List (Elem ki)) (n' : Int) : (bodyP E0 G61 L Try.f61 [coreAV x s d p b f n, coreAV x' s' d' p' b' f' n'] [] R) = (
    br (x == x')
      (br (decide (s.length ≤ 1048576))
        (br (eqR kc s s')
          (br (decide (d.length ≤ 1048576))
            (br (eqR k3 d d')
              (br (decide (p.length ≤ 1048576))
                (br (eqR k3 p p')
                  (br (b == b')
                    (br (decide (f.length ≤ 1048576))
                      (br (eqR ki f f') (R (some { av := AV.val (Value.bool (n == n')), obs := [], outs := [] }))
                        (R (some { av := AV.val (Value.bool false), obs := [], outs := [] })))
                      False)
                    (R (some { av := AV.val (Value.bool false), obs := [], outs := [] })))
                  (R (some { av := AV.val (Value.bool false), obs := [], outs := [] })))
                False)
              (R (some { av := AV.val (Value.bool false), obs := [], outs := [] })))
            False)
          (R (some { av := AV.val (Value.bool false), obs := [], outs := [] })))
        False)
      (R (some { av := AV.val (Value.bool false), obs := [], outs := [] }))) := by kernel_rfl
theorem h61 : G1Ok Try.prog 61 g62 := by
  intro args obs k h
  unfold g62 at h
  split at h
  · rename_i k us vs
    split at h
    rotate_left
    · exact h.elim
    rename_i c e hc he
    obtain rfl := coreOf_inv hc
    obtain rfl := coreOf_inv he
    obtain ⟨x, s, d, p, b, f, n⟩ := c
    obtain ⟨x', s', d', p', b', f', n'⟩ := e
    obtain ⟨hp, h⟩ := br_and h
    simp only [smCo, Bool.and_eq_true] at hp
    obtain ⟨⟨⟨ps, pd⟩, pp⟩, pf⟩ := hp
    refine ⟨_, ctr_fn ok0 hg61 Try.func61 (by kernel_rfl) (by kernel_rfl) (by kernel_rfl) fun C => ?_, h⟩
    show bodyP E0 G61 _ Try.f61 [coreAV x s d p b f n, coreAV x' s' d' p' b' f' n'] [] _
    rw [e61]
    refine br_intro (fun h1 => br_t ps (br_intro (fun h2 => br_t pd (br_intro (fun h3 => br_t pp (br_intro (fun h4 => br_intro (fun h5 => br_t pf (br_intro (fun h6 => ?_) (fun h6 => ?_))) (fun h5 => ?_)) (fun h4 => ?_))) (fun h3 => ?_))) (fun h2 => ?_))) (fun h1 => ?_)
    · show _ = _
      rw [eqCo_def, h1, h2, h3, h4, h5, h6]
      simp only [Bool.true_and, Bool.and_true, Bool.false_and, Bool.and_false]
    · show _ = _
      rw [eqCo_def, h1, h2, h3, h4, h5, h6]
      simp only [Bool.true_and, Bool.and_true, Bool.false_and, Bool.and_false]
    · show _ = _
      rw [eqCo_def, h1, h2, h3, h4, h5]
      simp only [Bool.true_and, Bool.and_true, Bool.false_and, Bool.and_false]
    · show _ = _
      rw [eqCo_def, h1, h2, h3, h4]
      simp only [Bool.true_and, Bool.and_true, Bool.false_and, Bool.and_false]
    · show _ = _
      rw [eqCo_def, h1, h2, h3]
      simp only [Bool.true_and, Bool.and_true, Bool.false_and, Bool.and_false]
    · show _ = _
      rw [eqCo_def, h1, h2]
      simp only [Bool.true_and, Bool.and_true, Bool.false_and, Bool.and_false]
    · show _ = _
      rw [eqCo_def, h1]
      simp only [Bool.true_and, Bool.and_true, Bool.false_and, Bool.and_false]
  · exact h.elim
end Go.Proofs.Ytjhjhkphcemcmaa.Ev
