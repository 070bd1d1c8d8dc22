/- BlkTo of the program equals BlkTo of the reference for every sector, text of at most 1048576 bytes, and commit. -/
import Derived.Test.YtahbndcmnpiejaaPFnExactBlkTox2
namespace Go.Proofs.Ytahbndcmnpiejaa.Pure
open Go.RowKit Go.Proofs.Ytahbndcmnpiejaa.PFnExactBlkTo Go.Proofs.YtahbndcmnpiejaaW.PrintWords Go.Proofs.YtahbndcmnpiejaaW.PrintLast

set_option linter.unusedSimpArgs false
theorem both (s : ByteArray) (hn : s.size ≤ 1048576) (d : Nat) : ∀ (k : Nat) (x i : Int), 0 ≤ i → i ≤ s.size → (s.size : Int) - i = d → d < k →
    ∃ r, spec_SumOf.l0 k s x i = some r ∧ impl_SumOf.l0 k s x (s.size : Int) i = some r := by
  induction d with
  | zero =>
    intro k x i h0 h1 hd hk
    obtain ⟨k, rfl⟩ : ∃ m, k = m + 1 := ⟨k - 1, by omega⟩
    exact ⟨x, by simp only [spec_SumOf.l0]; rw [if_neg (by omega)], by simp only [impl_SumOf.l0]; rw [if_neg (by omega)]⟩
  | succ d ih =>
    intro k x i h0 h1 hd hk
    obtain ⟨k, rfl⟩ : ∃ m, k = m + 1 := ⟨k - 1, by omega⟩
    have hw : wrap64 (i + 1) = i + 1 := by unfold wrap64; omega
    have hlt : i < (s.size : Int) := by omega
    obtain ⟨r, h, h'⟩ := ih k (Int.tmod (wrap64 ((wrap64 ((wrap64 (257 * x)) + (wrap64 (bt s i)))) + 1)) 65521) (i + 1) (by omega) (by omega) (by omega) (by omega)
    refine ⟨r, ?_, ?_⟩
    · simp only [spec_SumOf.l0]; rw [if_pos hlt, if_pos h0, hw, Int.mul_comm x 257]; exact h
    · simp only [impl_SumOf.l0]; rw [if_pos hlt, if_pos h0, if_pos hlt, hw]; exact h'

theorem FnExactBlkTo : laws_FnExactBlkTo.Pure := by
  intro at_ s b _ _ _
  refine ⟨s.size + 1, ?_⟩
  unfold laws_FnExactBlkTo.f
  by_cases hn : (s.size : Int) > 1048576
  · rw [if_pos hn]
  · rw [if_neg hn]
    obtain ⟨r, h, h'⟩ := both s (by omega) s.size (s.size + 1) (1 + ((s.size : Int) % 997)) 0 (by omega) (by omega) (by omega) (by omega)
    unfold spec_BlkTo.f impl_BlkTo.f spec_SumOf.f impl_SumOf.f
    rw [h, h']
    simp only [Option.bind_some, spec_PtrOk.f, impl_isReal.f, impl_PtrOk.f, impl_within.f, laws_eqPtr.f]
    by_cases e : at_ < 1
    · rw [if_pos e]
      by_cases z : at_ = 0
      · subst z
        by_cases y : r = 0
        · subst y
          by_cases x : b = 0
          · subst x; simp
          · simp [x]
        · simp [y]
      · have q : ¬ 1 ≤ at_ := by omega
        simp [z, q]
    · rw [if_neg e]
      have z : ¬ at_ = 0 := by omega
      have q : 1 ≤ at_ := by omega
      have q' : at_ > 0 := by omega
      have q'' : 0 < at_ := by omega
      by_cases a2 : at_ < 120
      · have a2' : at_ ≤ 119 := by omega
        by_cases a3 : 0 ≤ r
        · by_cases a4 : r < 65521
          · have a4' : r ≤ 65520 := by omega
            by_cases a5 : 0 ≤ b <;> by_cases a6 : b ≤ 1000000 <;> simp [z, q, q', q'', a2, a2', a3, a4, a4', a5, a6]
          · have a4' : ¬ r ≤ 65520 := by omega
            simp [z, q, q', q'', a2, a2', a3, a4, a4']
        · simp [z, q, q', q'', a2, a2', a3]
      · have a2' : ¬ at_ ≤ 119 := by omega
        simp [z, q, q', q'', a2, a2']

end Go.Proofs.Ytahbndcmnpiejaa.Pure
