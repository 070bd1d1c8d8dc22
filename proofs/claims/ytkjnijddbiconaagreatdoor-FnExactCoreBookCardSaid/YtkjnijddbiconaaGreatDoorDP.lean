/- Pointers that are valid. -/
import Derived.Test.YtkjnijddbiconaaGreatDoorDS
namespace Go.Proofs.YtkjnijddbiconaaGreatDoor.Ev
open Go
set_option linter.unusedVariables false
set_option linter.unusedSimpArgs false
set_option maxRecDepth 100000
def ptrOk (a b c : Int) : Bool := (a == 0 && b == 0 && c == 0) || (decide (a > 0) && decide (a < 120) && decide (b ≥ 0) && decide (b < 65521) && decide (c ≥ 0) && decide (c ≤ 1000000))
def pOk (e : Elem k3) : Bool := ptrOk e.1 e.2.1 e.2.2.1
def g195 : G1
  | [.agg [.val (.int .i64 a), .val (.int .i64 b), .val (.int .i64 c)]], [], k => k ⟨.val (.bool (ptrOk a b c)), [], []⟩
  | _, _, _ => False
def g128 : G1
  | [.agg [.val (.int .i64 a), .val (.int .i64 b), .val (.int .i64 c)]], [], k => k ⟨.agg [.val (.int .i64 a), .val (.int .i64 b), .val (.int .i64 c)], [], []⟩
  | _, _, _ => False
noncomputable def E195 : Env := E0.of Tryz.f195
noncomputable def G195 : Gk := gk [(129, g129)]
noncomputable def lp195 (n : Nat) : Code := (loopOf n (codeOf Tryz.f195)).getD .skip
noncomputable def ct195 (L : Lp) (R : Option Res → Prop) (n : Nat) : Kt := contOf E195 G195 L n (codeOf Tryz.f195) (endK E195 Tryz.f195.results.toList R)
noncomputable def rk195 (L : Lp) (R : Option Res → Prop) (n : Nat) (N : St → Prop) : Kt := rk (jof E195 (lp195 n)) N (ct195 L R n)
noncomputable def rkn195 (L : Lp) (R : Option Res → Prop) (n : Nat) (N : St → Prop) (m : Nat) (N2 : St → Prop) : Kt := rk (jof E195 (lp195 m)) N2 (contOf E195 G195 L m (lp195 n) (rk195 L R n N))
noncomputable def LOOPN195 (L : Lp) (R : Option Res → Prop) (n : Nat) (N : St → Prop) (m : Nat) (st : St) : Prop := L (lp195 m) st (contOf E195 G195 L m (lp195 n) (rk195 L R n N))
noncomputable def LOOP195 (L : Lp) (R : Option Res → Prop) (n : Nat) (st : St) : Prop := L (lp195 n) st (ct195 L R n)
theorem hg195 : HG Tryz.prog G195 := (hg_cons h129 hg_nil)
theorem okf195 : Ok Tryz.prog E195 := ok0.of Tryz.f195
theorem e195 (L : Lp) (R : Option Res → Prop) (a b c : Int) : (bodyP E0 G195 L Tryz.f195 [.agg [.val (.int .i64 a), .val (.int .i64 b), .val (.int .i64 c)]] [] R) = (
    br (elemEq k3 (a, b, c, ()) (0, 0, 0, ())) (R (some { av := vB true, obs := [], outs := [] })) (br (decide (1 ≤ a) && decide (a ≤ 119)) (br (decide (0 ≤ b) && decide (b ≤ 65520)) (R (some { av := vB (decide (0 ≤ c) && decide (c ≤ 1000000)), obs := [], outs := [] })) (R (some { av := vB false, obs := [], outs := [] }))) (R (some { av := vB false, obs := [], outs := [] })))) := by kernel_rfl
theorem h195 : G1Ok Tryz.prog 195 g195 := by
  intro args obs k h
  unfold g195 at h
  split at h
  · rename_i k a b c
    refine ⟨_, ctr_fn ok0 hg195 Tryz.func195 (by kernel_rfl) (by kernel_rfl) (by kernel_rfl) fun C => ?_, h⟩
    rw [e195]
    refine br_intro (fun h => ?_) (fun h => br_intro (fun h2 => br_intro (fun h3 => ?_) (fun h3 => ?_)) (fun h2 => ?_))
    all_goals simp [ptrOk, elemEq, ckEq] at *
    all_goals grind
  · exact h.elim
noncomputable def E109 : Env := E0.of Tryz.f109
noncomputable def G109 : Gk := gk []
noncomputable def lp109 (n : Nat) : Code := (loopOf n (codeOf Tryz.f109)).getD .skip
noncomputable def ct109 (L : Lp) (R : Option Res → Prop) (n : Nat) : Kt := contOf E109 G109 L n (codeOf Tryz.f109) (endK E109 Tryz.f109.results.toList R)
noncomputable def rk109 (L : Lp) (R : Option Res → Prop) (n : Nat) (N : St → Prop) : Kt := rk (jof E109 (lp109 n)) N (ct109 L R n)
noncomputable def rkn109 (L : Lp) (R : Option Res → Prop) (n : Nat) (N : St → Prop) (m : Nat) (N2 : St → Prop) : Kt := rk (jof E109 (lp109 m)) N2 (contOf E109 G109 L m (lp109 n) (rk109 L R n N))
noncomputable def LOOPN109 (L : Lp) (R : Option Res → Prop) (n : Nat) (N : St → Prop) (m : Nat) (st : St) : Prop := L (lp109 m) st (contOf E109 G109 L m (lp109 n) (rk109 L R n N))
noncomputable def LOOP109 (L : Lp) (R : Option Res → Prop) (n : Nat) (st : St) : Prop := L (lp109 n) st (ct109 L R n)
theorem hg109 : HG Tryz.prog G109 := hg_nil
theorem okf109 : Ok Tryz.prog E109 := ok0.of Tryz.f109
theorem e109 (L : Lp) (R : Option Res → Prop) (a b c : Int) : (bodyP E0 G109 L Tryz.f109 [.agg [.val (.int .i64 a), .val (.int .i64 b), .val (.int .i64 c)]] [] R) = (
    br (a == 0) (R (some { av := vB (elemEq k3 (a, b, c, ()) (0, 0, 0, ())), obs := [], outs := [] })) (br (decide (a > 0)) (br (decide (a < 120)) (br (decide (b ≥ 0)) (br (decide (b < 65521)) (br (decide (c ≥ 0)) (R (some { av := vB (decide (c ≤ 1000000)), obs := [], outs := [] })) (R (some { av := vB false, obs := [], outs := [] }))) (R (some { av := vB false, obs := [], outs := [] }))) (R (some { av := vB false, obs := [], outs := [] }))) (R (some { av := vB false, obs := [], outs := [] }))) (R (some { av := vB false, obs := [], outs := [] })))) := by kernel_rfl
theorem h109 : G1Ok Tryz.prog 109 g195 := by
  intro args obs k h
  unfold g195 at h
  split at h
  · rename_i k a b c
    refine ⟨_, ctr_fn ok0 hg109 Tryz.func109 (by kernel_rfl) (by kernel_rfl) (by kernel_rfl) fun C => ?_, h⟩
    rw [e109]
    repeat' (first | refine br_intro (fun h => ?_) (fun h => ?_))
    all_goals simp [ptrOk, elemEq, ckEq] at *
    all_goals grind
  · exact h.elim
noncomputable def E128 : Env := E0.of Tryz.f128
noncomputable def G128 : Gk := gk []
noncomputable def lp128 (n : Nat) : Code := (loopOf n (codeOf Tryz.f128)).getD .skip
noncomputable def ct128 (L : Lp) (R : Option Res → Prop) (n : Nat) : Kt := contOf E128 G128 L n (codeOf Tryz.f128) (endK E128 Tryz.f128.results.toList R)
noncomputable def rk128 (L : Lp) (R : Option Res → Prop) (n : Nat) (N : St → Prop) : Kt := rk (jof E128 (lp128 n)) N (ct128 L R n)
noncomputable def rkn128 (L : Lp) (R : Option Res → Prop) (n : Nat) (N : St → Prop) (m : Nat) (N2 : St → Prop) : Kt := rk (jof E128 (lp128 m)) N2 (contOf E128 G128 L m (lp128 n) (rk128 L R n N))
noncomputable def LOOPN128 (L : Lp) (R : Option Res → Prop) (n : Nat) (N : St → Prop) (m : Nat) (st : St) : Prop := L (lp128 m) st (contOf E128 G128 L m (lp128 n) (rk128 L R n N))
noncomputable def LOOP128 (L : Lp) (R : Option Res → Prop) (n : Nat) (st : St) : Prop := L (lp128 n) st (ct128 L R n)
theorem hg128 : HG Tryz.prog G128 := hg_nil
theorem okf128 : Ok Tryz.prog E128 := ok0.of Tryz.f128
theorem e128 (L : Lp) (R : Option Res → Prop) (a b c : Int) : (bodyP E0 G128 L Tryz.f128 [.agg [.val (.int .i64 a), .val (.int .i64 b), .val (.int .i64 c)]] [] R) = (
    R (some { av := AV.agg [vI a, vI b, vI c], obs := [], outs := [] })) := by kernel_rfl
theorem h128 : G1Ok Tryz.prog 128 g128 := by
  intro args obs k h
  unfold g128 at h
  split at h
  · rename_i k a b c
    refine ⟨_, ctr_fn ok0 hg128 Tryz.func128 (by kernel_rfl) (by kernel_rfl) (by kernel_rfl) fun C => ?_, h⟩
    rw [e128]
  · exact h.elim
def realP (a b c : Int) : Bool := ptrOk a b c && (a != 0)
def g121 : G1
  | [.agg [.val (.int .i64 a), .val (.int .i64 b), .val (.int .i64 c)]], [], k => k ⟨.val (.bool (realP a b c)), [], []⟩
  | _, _, _ => False
noncomputable def E121 : Env := E0.of Tryz.f121
noncomputable def G121 : Gk := gk [(195, g195)]
noncomputable def lp121 (n : Nat) : Code := (loopOf n (codeOf Tryz.f121)).getD .skip
noncomputable def ct121 (L : Lp) (R : Option Res → Prop) (n : Nat) : Kt := contOf E121 G121 L n (codeOf Tryz.f121) (endK E121 Tryz.f121.results.toList R)
noncomputable def rk121 (L : Lp) (R : Option Res → Prop) (n : Nat) (N : St → Prop) : Kt := rk (jof E121 (lp121 n)) N (ct121 L R n)
noncomputable def rkn121 (L : Lp) (R : Option Res → Prop) (n : Nat) (N : St → Prop) (m : Nat) (N2 : St → Prop) : Kt := rk (jof E121 (lp121 m)) N2 (contOf E121 G121 L m (lp121 n) (rk121 L R n N))
noncomputable def LOOPN121 (L : Lp) (R : Option Res → Prop) (n : Nat) (N : St → Prop) (m : Nat) (st : St) : Prop := L (lp121 m) st (contOf E121 G121 L m (lp121 n) (rk121 L R n N))
noncomputable def LOOP121 (L : Lp) (R : Option Res → Prop) (n : Nat) (st : St) : Prop := L (lp121 n) st (ct121 L R n)
theorem hg121 : HG Tryz.prog G121 := (hg_cons h195 hg_nil)
theorem okf121 : Ok Tryz.prog E121 := ok0.of Tryz.f121
theorem e121 (L : Lp) (R : Option Res → Prop) (a b c : Int) : (bodyP E0 G121 L Tryz.f121 [.agg [.val (.int .i64 a), .val (.int .i64 b), .val (.int .i64 c)]] [] R) = (
    br (ptrOk a b c) (R (some { av := vB (a != 0), obs := [], outs := [] })) (R (some { av := vB false, obs := [], outs := [] }))) := by kernel_rfl
theorem h121 : G1Ok Tryz.prog 121 g121 := by
  intro args obs k h
  unfold g121 at h
  split at h
  · rename_i k a b c
    refine ⟨_, ctr_fn ok0 hg121 Tryz.func121 (by kernel_rfl) (by kernel_rfl) (by kernel_rfl) fun C => ?_, h⟩
    rw [e121]
    refine br_intro (fun h => ?_) (fun h => ?_) <;> show _ = _ <;> unfold realP <;> rw [h] <;> rfl
  · exact h.elim
theorem realP_gt {x y z : Int} (h : ptrOk x y z = true) : realP x y z = decide (x > 0) := by
  unfold realP
  rw [h, Bool.true_and]
  simp only [ptrOk, Bool.or_eq_true, Bool.and_eq_true, decide_eq_true_eq, beq_iff_eq] at h
  rw [Bool.eq_iff_iff]
  simp only [bne_iff_ne, decide_eq_true_eq]
  omega
theorem ptr_range {a b c : Int} (h : ptrOk a b c = true) : (0 ≤ a ∧ a ≤ 120) ∧ (0 ≤ b ∧ b ≤ 65520) ∧ (0 ≤ c ∧ c ≤ 1000000) := by
  simp only [ptrOk, Bool.or_eq_true, Bool.and_eq_true, decide_eq_true_eq, beq_iff_eq] at h
  omega
end Go.Proofs.YtkjnijddbiconaaGreatDoor.Ev
