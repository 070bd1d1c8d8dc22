/- Contracts of small functions: within, PtrOk, toPtr. -/
import Derived.Test.YtjhjhkphcemcmaaTt
import Derived.Test.YtjhjhkphcemcmaaEv25
namespace Go.Proofs.Ytjhjhkphcemcmaa.Ev
open Go
set_option linter.unusedVariables false
set_option linter.unusedSimpArgs false
set_option maxRecDepth 100000
def g65 : G1
  | [.val (.int .i64 a), .val (.int .i64 b), .val (.int .i64 c)], [], k => k ⟨.val (.bool (decide (b ≤ a) && decide (a ≤ c))), [], []⟩
  | _, _, _ => False
theorem e65 (L : Lp) (R : Option Res → Prop) (a b c : Int) : (bodyP E0 (gk []) L Try.f65 [.val (.int .i64 a), .val (.int .i64 b), .val (.int .i64 c)] [] R) = (
    br (decide (b ≤ a)) (R (some { av := vB (decide (a ≤ c)), obs := [], outs := [] })) (R (some { av := vB false, obs := [], outs := [] }))) := by kernel_rfl
theorem h65 : G1Ok Try.prog 65 g65 := by
  intro args obs k h
  unfold g65 at h
  split at h
  · rename_i a b c k
    refine ⟨_, ctr_fn ok0 hg_nil Try.func65 (by kernel_rfl) (by kernel_rfl) (by kernel_rfl) fun C => ?_, h⟩
    rw [e65]
    refine br_intro (fun h => ?_) (fun h => ?_) <;> simp [h]
  · exact h.elim
def ptrOk (a b c : Int) : Bool := (a == 0 && b == 0 && c == 0) || (decide (a > 0) && decide (a < 120) && decide (b ≥ 0) && decide (b < 65521) && decide (c ≥ 0) && decide (c ≤ 1000000))
def g20 : G1
  | [.agg [.val (.int .i64 a), .val (.int .i64 b), .val (.int .i64 c)]], [], k => k ⟨.val (.bool (ptrOk a b c)), [], []⟩
  | _, _, _ => False
def g19 : G1
  | [.agg [.val (.int .i64 a), .val (.int .i64 b), .val (.int .i64 c)]], [], k => k ⟨.agg [.val (.int .i64 a), .val (.int .i64 b), .val (.int .i64 c)], [], []⟩
  | _, _, _ => False
theorem e20 (L : Lp) (R : Option Res → Prop) (a b c : Int) : (bodyP E0 (gk [(65, g65)]) L Try.f20 [.agg [.val (.int .i64 a), .val (.int .i64 b), .val (.int .i64 c)]] [] R) = (
    br (elemEq [CK.int IntKind.i64, CK.int IntKind.i64, CK.int IntKind.i64] (a, b, c, ()) (0, 0, 0, ())) (R (some { av := vB true, obs := [], outs := [] })) (br (decide (1 ≤ a) && decide (a ≤ 119)) (br (decide (0 ≤ b) && decide (b ≤ 65520)) (R (some { av := vB (decide (0 ≤ c) && decide (c ≤ 1000000)), obs := [], outs := [] })) (R (some { av := vB false, obs := [], outs := [] }))) (R (some { av := vB false, obs := [], outs := [] })))) := by kernel_rfl
theorem e18 (L : Lp) (R : Option Res → Prop) (a b c : Int) : (bodyP E0 (gk []) L Try.f18 [.agg [.val (.int .i64 a), .val (.int .i64 b), .val (.int .i64 c)]] [] R) = (
    br (a == 0) (R (some { av := vB (elemEq [CK.int IntKind.i64, CK.int IntKind.i64, CK.int IntKind.i64] (a, b, c, ()) (0, 0, 0, ())), obs := [], outs := [] })) (br (decide (a > 0)) (br (decide (a < 120)) (br (decide (b ≥ 0)) (br (decide (b < 65521)) (br (decide (c ≥ 0)) (R (some { av := vB (decide (c ≤ 1000000)), obs := [], outs := [] })) (R (some { av := vB false, obs := [], outs := [] }))) (R (some { av := vB false, obs := [], outs := [] }))) (R (some { av := vB false, obs := [], outs := [] }))) (R (some { av := vB false, obs := [], outs := [] }))) (R (some { av := vB false, obs := [], outs := [] })))) := by kernel_rfl
theorem e19 (L : Lp) (R : Option Res → Prop) (a b c : Int) : (bodyP E0 (gk []) L Try.f19 [.agg [.val (.int .i64 a), .val (.int .i64 b), .val (.int .i64 c)]] [] R) = (
    R (some { av := AV.agg [vI a, vI b, vI c], obs := [], outs := [] })) := by kernel_rfl
theorem e3 (L : Lp) (R : Option Res → Prop) (a b c : Int) : (bodyP E0 (gk [(18, g20), (19, g19), (20, g20)]) L Try.f3 [.agg [.val (.int .i64 a), .val (.int .i64 b), .val (.int .i64 c)]] [] R) = (
    br (!ptrOk a b c == ptrOk a b c) (R (some { av := vB false, obs := [], outs := [] })) (R (some { av := vB true, obs := [], outs := [] }))) := by kernel_rfl
theorem h20 : G1Ok Try.prog 20 g20 := by
  intro args obs k h
  unfold g20 at h
  split at h
  · rename_i a b c k
    refine ⟨_, ctr_fn ok0 (hg_cons h65 hg_nil) Try.func20 (by kernel_rfl) (by kernel_rfl) (by kernel_rfl) fun C => ?_, h⟩
    rw [e20]
    refine br_intro (fun h => ?_) (fun h => br_intro (fun h2 => br_intro (fun h3 => ?_) (fun h3 => ?_)) (fun h2 => ?_))
    all_goals simp [ptrOk, elemEq, ckEq] at *
    all_goals grind
  · exact h.elim
theorem h18 : G1Ok Try.prog 18 g20 := by
  intro args obs k h
  unfold g20 at h
  split at h
  · rename_i a b c k
    refine ⟨_, ctr_fn ok0 hg_nil Try.func18 (by kernel_rfl) (by kernel_rfl) (by kernel_rfl) fun C => ?_, h⟩
    rw [e18]
    repeat' (first | refine br_intro (fun h => ?_) (fun h => ?_))
    all_goals simp [ptrOk, elemEq, ckEq] at *
    all_goals grind
  · exact h.elim
theorem h19 : G1Ok Try.prog 19 g19 := by
  intro args obs k h
  unfold g19 at h
  split at h
  · rename_i a b c k
    refine ⟨_, ctr_fn ok0 hg_nil Try.func19 (by kernel_rfl) (by kernel_rfl) (by kernel_rfl) fun C => ?_, h⟩
    rw [e19]
  · exact h.elim
theorem c3 (a b c : Int) : Ctr Try.prog 3 [.agg [.val (.int .i64 a), .val (.int .i64 b), .val (.int .i64 c)]] [] ⟨.val (.bool true), [], []⟩ := by
  refine ctr_fn ok0 (hg_cons h18 (hg_cons h19 (hg_cons h20 hg_nil))) Try.func3 (by kernel_rfl) (by kernel_rfl) (by kernel_rfl) fun C => ?_
  rw [e3]
  refine br_intro (fun h => ?_) (fun h => ?_)
  · cases ptrOk a b c <;> simp at h
  · rfl
end Go.Proofs.Ytjhjhkphcemcmaa.Ev
