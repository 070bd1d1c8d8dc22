/- Pointers that are valid. -/
import Derived.Test.YtkjnijddbiconaaDS
namespace Go.Proofs.Ytkjnijddbiconaa.Ev
open Go
set_option linter.unusedVariables false
set_option linter.unusedSimpArgs false
set_option maxRecDepth 100000
def ptrOk (a b c : Int) : Bool := (a == 0 && b == 0 && c == 0) || (decide (a > 0) && decide (a < 120) && decide (b ≥ 0) && decide (b < 65521) && decide (c ≥ 0) && decide (c ≤ 1000000))
def pOk (e : Elem k3) : Bool := ptrOk e.1 e.2.1 e.2.2.1
def realP (a b c : Int) : Bool := ptrOk a b c && (a != 0)
theorem realP_gt {x y z : Int} (h : ptrOk x y z = true) : realP x y z = decide (x > 0) := by
  unfold realP
  rw [h, Bool.true_and]
  simp only [ptrOk, Bool.or_eq_true, Bool.and_eq_true, decide_eq_true_eq, beq_iff_eq] at h
  rw [Bool.eq_iff_iff]
  simp only [bne_iff_ne, decide_eq_true_eq]
  omega
theorem ptr_range {a b c : Int} (h : ptrOk a b c = true) : (0 ≤ a ∧ a ≤ 120) ∧ (0 ≤ b ∧ b ≤ 65520) ∧ (0 ≤ c ∧ c ≤ 1000000) := by
  simp only [ptrOk, Bool.or_eq_true, Bool.and_eq_true, decide_eq_true_eq, beq_iff_eq] at h
  omega
end Go.Proofs.Ytkjnijddbiconaa.Ev
