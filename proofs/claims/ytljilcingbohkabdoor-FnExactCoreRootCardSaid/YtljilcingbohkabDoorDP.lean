/- Pointers that are valid. -/
import Derived.Test.YtljilcingbohkabDoorDS
namespace Go.Proofs.YtljilcingbohkabDoor.Ev
open Go
set_option linter.unusedVariables false
set_option linter.unusedSimpArgs false
set_option maxRecDepth 100000
def ptrOk (a b c : Int) : Bool := (a == 0 && b == 0 && c == 0) || (decide (a > 0) && decide (a < 120) && decide (b ≥ 0) && decide (b < 65521) && decide (c ≥ 0) && decide (c ≤ 1000000))
def pOk (e : Elem k3) : Bool := ptrOk e.1 e.2.1 e.2.2.1
def g120 : G1
  | [.agg [.val (.int .i64 a), .val (.int .i64 b), .val (.int .i64 c)]], [], k => k ⟨.val (.bool (ptrOk a b c)), [], []⟩
  | _, _, _ => False
def g117 : G1
  | [.agg [.val (.int .i64 a), .val (.int .i64 b), .val (.int .i64 c)]], [], k => k ⟨.agg [.val (.int .i64 a), .val (.int .i64 b), .val (.int .i64 c)], [], []⟩
  | _, _, _ => False
noncomputable def E120 : Env := E0.of Tryd.f120
noncomputable def G120 : Gk := gk [(62, g62)]
noncomputable def lp120 (n : Nat) : Code := (loopOf n (codeOf Tryd.f120)).getD .skip
noncomputable def ct120 (L : Lp) (R : Option Res → Prop) (n : Nat) : Kt := contOf E120 G120 L n (codeOf Tryd.f120) (endK E120 Tryd.f120.results.toList R)
noncomputable def rk120 (L : Lp) (R : Option Res → Prop) (n : Nat) (N : St → Prop) : Kt := rk (jof E120 (lp120 n)) N (ct120 L R n)
noncomputable def rkn120 (L : Lp) (R : Option Res → Prop) (n : Nat) (N : St → Prop) (m : Nat) (N2 : St → Prop) : Kt := rk (jof E120 (lp120 m)) N2 (contOf E120 G120 L m (lp120 n) (rk120 L R n N))
noncomputable def LOOPN120 (L : Lp) (R : Option Res → Prop) (n : Nat) (N : St → Prop) (m : Nat) (st : St) : Prop := L (lp120 m) st (contOf E120 G120 L m (lp120 n) (rk120 L R n N))
noncomputable def LOOP120 (L : Lp) (R : Option Res → Prop) (n : Nat) (st : St) : Prop := L (lp120 n) st (ct120 L R n)
theorem hg120 : HG Tryd.prog G120 := (hg_cons h62 hg_nil)
theorem okf120 : Ok Tryd.prog E120 := ok0.of Tryd.f120
theorem e120 (L : Lp) (R : Option Res → Prop) (a b c : Int) : (bodyP E0 G120 L Tryd.f120 [.agg [.val (.int .i64 a), .val (.int .i64 b), .val (.int .i64 c)]] [] R) = (
    br (elemEq k3 (a, b, c, ()) (0, 0, 0, ())) (R (some { av := vB true, obs := [], outs := [] })) (br (decide (1 ≤ a) && decide (a ≤ 119)) (br (decide (0 ≤ b) && decide (b ≤ 65520)) (R (some { av := vB (decide (0 ≤ c) && decide (c ≤ 1000000)), obs := [], outs := [] })) (R (some { av := vB false, obs := [], outs := [] }))) (R (some { av := vB false, obs := [], outs := [] })))) := by kernel_rfl
theorem h120 : G1Ok Tryd.prog 120 g120 := by
  intro args obs k h
  unfold g120 at h
  split at h
  · rename_i k a b c
    refine ⟨_, ctr_fn ok0 hg120 Tryd.func120 (by kernel_rfl) (by kernel_rfl) (by kernel_rfl) fun C => ?_, h⟩
    rw [e120]
    refine br_intro (fun h => ?_) (fun h => br_intro (fun h2 => br_intro (fun h3 => ?_) (fun h3 => ?_)) (fun h2 => ?_))
    all_goals simp [ptrOk, elemEq, ckEq] at *
    all_goals grind
  · exact h.elim
noncomputable def E53 : Env := E0.of Tryd.f53
noncomputable def G53 : Gk := gk []
noncomputable def lp53 (n : Nat) : Code := (loopOf n (codeOf Tryd.f53)).getD .skip
noncomputable def ct53 (L : Lp) (R : Option Res → Prop) (n : Nat) : Kt := contOf E53 G53 L n (codeOf Tryd.f53) (endK E53 Tryd.f53.results.toList R)
noncomputable def rk53 (L : Lp) (R : Option Res → Prop) (n : Nat) (N : St → Prop) : Kt := rk (jof E53 (lp53 n)) N (ct53 L R n)
noncomputable def rkn53 (L : Lp) (R : Option Res → Prop) (n : Nat) (N : St → Prop) (m : Nat) (N2 : St → Prop) : Kt := rk (jof E53 (lp53 m)) N2 (contOf E53 G53 L m (lp53 n) (rk53 L R n N))
noncomputable def LOOPN53 (L : Lp) (R : Option Res → Prop) (n : Nat) (N : St → Prop) (m : Nat) (st : St) : Prop := L (lp53 m) st (contOf E53 G53 L m (lp53 n) (rk53 L R n N))
noncomputable def LOOP53 (L : Lp) (R : Option Res → Prop) (n : Nat) (st : St) : Prop := L (lp53 n) st (ct53 L R n)
theorem hg53 : HG Tryd.prog G53 := hg_nil
theorem okf53 : Ok Tryd.prog E53 := ok0.of Tryd.f53
theorem e53 (L : Lp) (R : Option Res → Prop) (a b c : Int) : (bodyP E0 G53 L Tryd.f53 [.agg [.val (.int .i64 a), .val (.int .i64 b), .val (.int .i64 c)]] [] R) = (
    br (a == 0) (R (some { av := vB (elemEq k3 (a, b, c, ()) (0, 0, 0, ())), obs := [], outs := [] })) (br (decide (a > 0)) (br (decide (a < 120)) (br (decide (b ≥ 0)) (br (decide (b < 65521)) (br (decide (c ≥ 0)) (R (some { av := vB (decide (c ≤ 1000000)), obs := [], outs := [] })) (R (some { av := vB false, obs := [], outs := [] }))) (R (some { av := vB false, obs := [], outs := [] }))) (R (some { av := vB false, obs := [], outs := [] }))) (R (some { av := vB false, obs := [], outs := [] }))) (R (some { av := vB false, obs := [], outs := [] })))) := by kernel_rfl
theorem h53 : G1Ok Tryd.prog 53 g120 := by
  intro args obs k h
  unfold g120 at h
  split at h
  · rename_i k a b c
    refine ⟨_, ctr_fn ok0 hg53 Tryd.func53 (by kernel_rfl) (by kernel_rfl) (by kernel_rfl) fun C => ?_, h⟩
    rw [e53]
    repeat' (first | refine br_intro (fun h => ?_) (fun h => ?_))
    all_goals simp [ptrOk, elemEq, ckEq] at *
    all_goals grind
  · exact h.elim
noncomputable def E117 : Env := E0.of Tryd.f117
noncomputable def G117 : Gk := gk []
noncomputable def lp117 (n : Nat) : Code := (loopOf n (codeOf Tryd.f117)).getD .skip
noncomputable def ct117 (L : Lp) (R : Option Res → Prop) (n : Nat) : Kt := contOf E117 G117 L n (codeOf Tryd.f117) (endK E117 Tryd.f117.results.toList R)
noncomputable def rk117 (L : Lp) (R : Option Res → Prop) (n : Nat) (N : St → Prop) : Kt := rk (jof E117 (lp117 n)) N (ct117 L R n)
noncomputable def rkn117 (L : Lp) (R : Option Res → Prop) (n : Nat) (N : St → Prop) (m : Nat) (N2 : St → Prop) : Kt := rk (jof E117 (lp117 m)) N2 (contOf E117 G117 L m (lp117 n) (rk117 L R n N))
noncomputable def LOOPN117 (L : Lp) (R : Option Res → Prop) (n : Nat) (N : St → Prop) (m : Nat) (st : St) : Prop := L (lp117 m) st (contOf E117 G117 L m (lp117 n) (rk117 L R n N))
noncomputable def LOOP117 (L : Lp) (R : Option Res → Prop) (n : Nat) (st : St) : Prop := L (lp117 n) st (ct117 L R n)
theorem hg117 : HG Tryd.prog G117 := hg_nil
theorem okf117 : Ok Tryd.prog E117 := ok0.of Tryd.f117
theorem e117 (L : Lp) (R : Option Res → Prop) (a b c : Int) : (bodyP E0 G117 L Tryd.f117 [.agg [.val (.int .i64 a), .val (.int .i64 b), .val (.int .i64 c)]] [] R) = (
    R (some { av := AV.agg [vI a, vI b, vI c], obs := [], outs := [] })) := by kernel_rfl
theorem h117 : G1Ok Tryd.prog 117 g117 := by
  intro args obs k h
  unfold g117 at h
  split at h
  · rename_i k a b c
    refine ⟨_, ctr_fn ok0 hg117 Tryd.func117 (by kernel_rfl) (by kernel_rfl) (by kernel_rfl) fun C => ?_, h⟩
    rw [e117]
  · exact h.elim
def realP (a b c : Int) : Bool := ptrOk a b c && (a != 0)
def g66 : G1
  | [.agg [.val (.int .i64 a), .val (.int .i64 b), .val (.int .i64 c)]], [], k => k ⟨.val (.bool (realP a b c)), [], []⟩
  | _, _, _ => False
noncomputable def E66 : Env := E0.of Tryd.f66
noncomputable def G66 : Gk := gk [(120, g120)]
noncomputable def lp66 (n : Nat) : Code := (loopOf n (codeOf Tryd.f66)).getD .skip
noncomputable def ct66 (L : Lp) (R : Option Res → Prop) (n : Nat) : Kt := contOf E66 G66 L n (codeOf Tryd.f66) (endK E66 Tryd.f66.results.toList R)
noncomputable def rk66 (L : Lp) (R : Option Res → Prop) (n : Nat) (N : St → Prop) : Kt := rk (jof E66 (lp66 n)) N (ct66 L R n)
noncomputable def rkn66 (L : Lp) (R : Option Res → Prop) (n : Nat) (N : St → Prop) (m : Nat) (N2 : St → Prop) : Kt := rk (jof E66 (lp66 m)) N2 (contOf E66 G66 L m (lp66 n) (rk66 L R n N))
noncomputable def LOOPN66 (L : Lp) (R : Option Res → Prop) (n : Nat) (N : St → Prop) (m : Nat) (st : St) : Prop := L (lp66 m) st (contOf E66 G66 L m (lp66 n) (rk66 L R n N))
noncomputable def LOOP66 (L : Lp) (R : Option Res → Prop) (n : Nat) (st : St) : Prop := L (lp66 n) st (ct66 L R n)
theorem hg66 : HG Tryd.prog G66 := (hg_cons h120 hg_nil)
theorem okf66 : Ok Tryd.prog E66 := ok0.of Tryd.f66
theorem e66 (L : Lp) (R : Option Res → Prop) (a b c : Int) : (bodyP E0 G66 L Tryd.f66 [.agg [.val (.int .i64 a), .val (.int .i64 b), .val (.int .i64 c)]] [] R) = (
    br (ptrOk a b c) (R (some { av := vB (a != 0), obs := [], outs := [] })) (R (some { av := vB false, obs := [], outs := [] }))) := by kernel_rfl
theorem h66 : G1Ok Tryd.prog 66 g66 := by
  intro args obs k h
  unfold g66 at h
  split at h
  · rename_i k a b c
    refine ⟨_, ctr_fn ok0 hg66 Tryd.func66 (by kernel_rfl) (by kernel_rfl) (by kernel_rfl) fun C => ?_, h⟩
    rw [e66]
    refine br_intro (fun h => ?_) (fun h => ?_) <;> show _ = _ <;> unfold realP <;> rw [h] <;> rfl
  · exact h.elim
theorem realP_gt {x y z : Int} (h : ptrOk x y z = true) : realP x y z = decide (x > 0) := by
  unfold realP
  rw [h, Bool.true_and]
  simp only [ptrOk, Bool.or_eq_true, Bool.and_eq_true, decide_eq_true_eq, beq_iff_eq] at h
  rw [Bool.eq_iff_iff]
  simp only [bne_iff_ne, decide_eq_true_eq]
  omega
theorem ptr_range {a b c : Int} (h : ptrOk a b c = true) : (0 ≤ a ∧ a ≤ 120) ∧ (0 ≤ b ∧ b ≤ 65520) ∧ (0 ≤ c ∧ c ≤ 1000000) := by
  simp only [ptrOk, Bool.or_eq_true, Bool.and_eq_true, decide_eq_true_eq, beq_iff_eq] at h
  omega
end Go.Proofs.YtljilcingbohkabDoor.Ev
