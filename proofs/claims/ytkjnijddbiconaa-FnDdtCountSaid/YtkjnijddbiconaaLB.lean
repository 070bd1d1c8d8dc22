/- slices.Clone, slices.Delete, slices.Insert at a dedup entry, for the evaluator. -/
import Derived.Test.YtkjnijddbiconaaQ8
import Derived.Test.YtkjnijddbiconaaFP
namespace Go.Proofs.Ytkjnijddbiconaa.Ev
open Go
set_option linter.unusedVariables false
set_option linter.unusedSimpArgs false
set_option maxRecDepth 100000
def El : Env := ⟨tt, [1000000, 35, 36], E0.eqs, .skip, []⟩
def g34 : G1
  | [.rsl [.int .i64, .int .i64, .int .i64] xs], [], k => br (decide (xs.length ≤ 1048576)) (k ⟨.ows 0, [.row k3 xs], []⟩) False
  | _, _, _ => False
def g35 : G1
  | [.ows 0, .val (.int .i64 i), .val (.int .i64 j)], [.row [.int .i64, .int .i64, .int .i64] xs], k => br (decide (0 ≤ i ∧ i < xs.length) && decide (j = i + 1)) (k ⟨.ows 0, [.row k3 (xs.take i.toNat ++ xs.drop (i.toNat + 1))], [none]⟩) False
  | _, _, _ => False
def g36 : G1
  | [.ows 0, .val (.int .i64 i), .ows 1], [.row [.int .i64, .int .i64, .int .i64] xs, .row [.int .i64, .int .i64, .int .i64] ys], k => br (decide (0 ≤ i ∧ i ≤ xs.length) && (decide (xs.length ≤ 1048576) && decide (ys.length = 1))) (k ⟨.ows 0, [.row k3 (xs.take i.toNat ++ ys ++ xs.drop i.toNat)], [none, none]⟩) False
  | _, _, _ => False
theorem okl : Ok Try.prog El := ⟨ttOK, eqsOK, by kernel_rfl⟩
theorem h34 : G1Ok Try.prog 34 g34 := by
  intro args obs k h
  unfold g34 at h
  split at h
  · rename_i k xs
    obtain ⟨hl, h⟩ := brd h
    exact ⟨_, q34 xs hl, h⟩
  · exact h.elim
theorem h35 : G1Ok Try.prog 35 g35 := by
  intro args obs k h
  unfold g35 at h
  split at h
  · rename_i k i j xs
    obtain ⟨hl, h⟩ := br_and h
    rw [Bool.and_eq_true, decide_eq_true_eq, decide_eq_true_eq] at hl
    obtain ⟨⟨h0, h1⟩, h2⟩ := hl
    obtain ⟨n, rfl⟩ : ∃ n : Nat, i = n := ⟨i.toNat, by omega⟩
    rw [Int.toNat_natCast] at h
    exact ⟨_, q35 xs n (by omega) j (by omega), h⟩
  · exact h.elim
theorem h36 : G1Ok Try.prog 36 g36 := by
  intro args obs k h
  unfold g36 at h
  split at h
  · rename_i k i xs ys
    obtain ⟨hl, h⟩ := br_and h
    rw [Bool.and_eq_true, Bool.and_eq_true, decide_eq_true_eq, decide_eq_true_eq, decide_eq_true_eq] at hl
    obtain ⟨⟨h0, h1⟩, h2, h3⟩ := hl
    obtain ⟨n, rfl⟩ : ∃ n : Nat, i = n := ⟨i.toNat, by omega⟩
    obtain ⟨e, rfl⟩ : ∃ e, ys = [e] := by
      match ys, h3 with
      | [e], _ => exact ⟨e, rfl⟩
    rw [Int.toNat_natCast, List.append_assoc] at h
    exact ⟨_, q36 xs e n (by omega) h2, h⟩
  · exact h.elim
end Go.Proofs.Ytkjnijddbiconaa.Ev
