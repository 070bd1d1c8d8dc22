/- SumOf of the program equals SumOf of the reference for every text of at most 1048576 bytes; for a longer one the law answers true at once. -/
import Derived.Test.YtahbndcmnpiejaaPFnExactSumOfx1
namespace Go.Proofs.Ytahbndcmnpiejaa.Pure
open Go.RowKit Go.Proofs.Ytahbndcmnpiejaa.PFnExactSumOf Go.Proofs.YtahbndcmnpiejaaW.PrintWords Go.Proofs.YtahbndcmnpiejaaW.PrintLast

theorem both (s : ByteArray) (hn : s.size ≤ 1048576) (d : Nat) : ∀ (k : Nat) (x i : Int), 0 ≤ i → i ≤ s.size → (s.size : Int) - i = d → d < k →
    ∃ r, spec_SumOf.l0 k s x i = some r ∧ impl_SumOf.l0 k s x (s.size : Int) i = some r := by
  induction d with
  | zero =>
    intro k x i h0 h1 hd hk
    obtain ⟨k, rfl⟩ : ∃ m, k = m + 1 := ⟨k - 1, by omega⟩
    exact ⟨x, by simp only [spec_SumOf.l0]; rw [if_neg (by omega)], by simp only [impl_SumOf.l0]; rw [if_neg (by omega)]⟩
  | succ d ih =>
    intro k x i h0 h1 hd hk
    obtain ⟨k, rfl⟩ : ∃ m, k = m + 1 := ⟨k - 1, by omega⟩
    have hw : wrap64 (i + 1) = i + 1 := by unfold wrap64; omega
    have hlt : i < (s.size : Int) := by omega
    obtain ⟨r, h, h'⟩ := ih k (Int.tmod (wrap64 ((wrap64 ((wrap64 (257 * x)) + (wrap64 (bt s i)))) + 1)) 65521) (i + 1) (by omega) (by omega) (by omega) (by omega)
    refine ⟨r, ?_, ?_⟩
    · simp only [spec_SumOf.l0]; rw [if_pos hlt, if_pos h0, hw, Int.mul_comm x 257]; exact h
    · simp only [impl_SumOf.l0]; rw [if_pos hlt, if_pos h0, if_pos hlt, hw]; exact h'

theorem FnExactSumOf : laws_FnExactSumOf.Pure := by
  intro s _
  refine ⟨s.size + 1, ?_⟩
  unfold laws_FnExactSumOf.f
  by_cases hn : (s.size : Int) > 1048576
  · rw [if_pos hn]
  · rw [if_neg hn]
    obtain ⟨r, h, h'⟩ := both s (by omega) s.size (s.size + 1) (1 + ((s.size : Int) % 997)) 0 (by omega) (by omega) (by omega) (by omega)
    unfold spec_SumOf.f impl_SumOf.f
    rw [h, h']; simp

end Go.Proofs.Ytahbndcmnpiejaa.Pure
