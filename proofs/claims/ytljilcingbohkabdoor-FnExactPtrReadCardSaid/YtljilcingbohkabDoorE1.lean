/- Pointers that are equal. -/
import Derived.Test.YtljilcingbohkabDoorDP
namespace Go.Proofs.YtljilcingbohkabDoor.Ev
open Go
set_option linter.unusedVariables false
set_option linter.unusedSimpArgs false
set_option maxRecDepth 100000
def g21 : G1
  | [.agg [.val (.int .i64 a0), .val (.int .i64 a1), .val (.int .i64 a2)], .agg [.val (.int .i64 b0), .val (.int .i64 b1), .val (.int .i64 b2)]], [], k => k ⟨.val (.bool (elemEq k3 (a0, a1, a2, ()) (b0, b1, b2, ()))), [], []⟩
  | _, _, _ => False
noncomputable def E21 : Env := E0.of Tryd.f21
noncomputable def G21 : Gk := gk []
noncomputable def lp21 (n : Nat) : Code := (loopOf n (codeOf Tryd.f21)).getD .skip
noncomputable def ct21 (L : Lp) (R : Option Res → Prop) (n : Nat) : Kt := contOf E21 G21 L n (codeOf Tryd.f21) (endK E21 Tryd.f21.results.toList R)
noncomputable def rk21 (L : Lp) (R : Option Res → Prop) (n : Nat) (N : St → Prop) : Kt := rk (jof E21 (lp21 n)) N (ct21 L R n)
noncomputable def rkn21 (L : Lp) (R : Option Res → Prop) (n : Nat) (N : St → Prop) (m : Nat) (N2 : St → Prop) : Kt := rk (jof E21 (lp21 m)) N2 (contOf E21 G21 L m (lp21 n) (rk21 L R n N))
noncomputable def LOOPN21 (L : Lp) (R : Option Res → Prop) (n : Nat) (N : St → Prop) (m : Nat) (st : St) : Prop := L (lp21 m) st (contOf E21 G21 L m (lp21 n) (rk21 L R n N))
noncomputable def LOOP21 (L : Lp) (R : Option Res → Prop) (n : Nat) (st : St) : Prop := L (lp21 n) st (ct21 L R n)
theorem hg21 : HG Tryd.prog G21 := hg_nil
theorem okf21 : Ok Tryd.prog E21 := ok0.of Tryd.f21
theorem e21 (L : Lp) (R : Option Res → Prop) (a0 : Int) (a1 : Int) (a2 : Int) (b0 : Int) (b1 : Int) (b2 : Int) : (bodyP E0 G21 L Tryd.f21 [.agg [.val (.int .i64 a0), .val (.int .i64 a1), .val (.int .i64 a2)], .agg [.val (.int .i64 b0), .val (.int .i64 b1), .val (.int .i64 b2)]] [] R) = (
    br (a0 != b0) (R (some { av := vB false, obs := [], outs := [] })) (br (a1 != b1) (R (some { av := vB false, obs := [], outs := [] })) (br (a2 != b2) (R (some { av := vB false, obs := [], outs := [] })) (R (some { av := vB true, obs := [], outs := [] }))))) := by kernel_rfl
theorem h21 : G1Ok Tryd.prog 21 g21 := by
  intro args obs k h
  unfold g21 at h
  split at h
  · rename_i k a0 a1 a2 b0 b1 b2
    refine ⟨_, ctr_fn ok0 hg21 Tryd.func21 (by kernel_rfl) (by kernel_rfl) (by kernel_rfl) fun C => ?_, h⟩
    rw [e21]
    repeat' (first | refine br_intro (fun h => ?_) (fun h => ?_))
    all_goals simp_all [elemEq, ckEq]
    all_goals grind
  · exact h.elim
end Go.Proofs.YtljilcingbohkabDoor.Ev
