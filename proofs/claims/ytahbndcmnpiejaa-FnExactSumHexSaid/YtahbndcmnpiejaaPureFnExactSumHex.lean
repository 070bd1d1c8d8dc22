/- SumHex of the program equals SumHex of the reference for every text of at most 1048576 bytes; for a longer one the law answers true at once. -/
import Derived.Test.YtahbndcmnpiejaaPFnExactSumHexx1
namespace Go.Proofs.Ytahbndcmnpiejaa.Pure
open Go.RowKit Go.Proofs.Ytahbndcmnpiejaa.PFnExactSumHex Go.Proofs.YtahbndcmnpiejaaW.PrintWords Go.Proofs.YtahbndcmnpiejaaW.PrintLast

theorem low (n : Nat) (h : n < 256) : Go.bits .and .u8 (n : Int) 15 = (n : Int) % 16 := by
  revert n; decide +kernel

theorem both (s : ByteArray) (hn : s.size ≤ 1048576) (d : Nat) : ∀ (k : Nat) (xs : List Int) (i : Int), 0 ≤ i → i ≤ s.size → (s.size : Int) - i = d → d < k → xs.length = 2 * i.toNat →
    ∃ r, spec_SumHex.l0 k s xs i = some r ∧ impl_SumHex.l0 k s xs (s.size : Int) i = some r := by
  induction d with
  | zero =>
    intro k xs i h0 h1 hd hk hl
    obtain ⟨k, rfl⟩ : ∃ m, k = m + 1 := ⟨k - 1, by omega⟩
    exact ⟨strOfNums xs, by simp only [spec_SumHex.l0]; rw [if_neg (by omega)], by simp only [impl_SumHex.l0]; rw [if_neg (by omega)]⟩
  | succ d ih =>
    intro k xs i h0 h1 hd hk hl
    obtain ⟨k, rfl⟩ : ∃ m, k = m + 1 := ⟨k - 1, by omega⟩
    have hw : wrap64 (i + 1) = i + 1 := by unfold wrap64; omega
    have hlt : i < (s.size : Int) := by omega
    have hb := bt_range s i
    have hwb : wrap64 (bt s i) = bt s i := by unfold wrap64; omega
    have hdv : Int.tdiv (bt s i) 16 = bt s i / 16 := Int.tdiv_eq_ediv_of_nonneg hb.1
    have hmd : Int.tmod (bt s i) 16 = bt s i % 16 := Int.tmod_eq_emod_of_nonneg hb.1
    have hwd : wrap64 (bt s i / 16) = bt s i / 16 := by unfold wrap64; omega
    have hla : Go.bits .and .u8 (bt s i) 15 = bt s i % 16 := by
      obtain ⟨n, hn⟩ := Int.eq_ofNat_of_zero_le hb.1
      rw [hn]; exact low n (by omega)
    obtain ⟨r, h, h'⟩ := ih k (xs ++ [bt (⟨#[48, 49, 50, 51, 52, 53, 54, 55, 56, 57, 97, 98, 99, 100, 101, 102]⟩ : ByteArray) (bt s i / 16), bt (⟨#[48, 49, 50, 51, 52, 53, 54, 55, 56, 57, 97, 98, 99, 100, 101, 102]⟩ : ByteArray) (bt s i % 16)]) (i + 1) (by omega) (by omega) (by omega) (by omega) (by simp; omega)
    have g1 : 0 ≤ bt s i / 16 := by omega
    have g2 : bt s i / 16 < 16 := by omega
    have g3 : 0 ≤ bt s i % 16 := by omega
    have g4 : bt s i % 16 < 16 := by omega
    have g5 : xs.length + 1 + 1 < 140737488355328 := by omega
    refine ⟨r, ?_, ?_⟩
    · simp only [spec_SumHex.l0]; rw [if_pos hlt, if_pos h0, hwb, hdv, hmd, hwd, hw]
      simp only [spec_l1Digit.f, Option.bind_some]
      rw [if_pos g1, if_pos g2, if_pos g3, if_pos g4]
      simp only [Option.bind_some, List.length_cons, List.length_nil]
      rw [if_pos (by omega)]; exact h
    · simp only [impl_SumHex.l0]; rw [if_pos hlt, if_pos h0, if_pos hlt, hla, if_pos g1, if_pos g2, if_pos g3, if_pos g4, hw]
      simp only [Option.bind_some, List.length_cons, List.length_nil]
      rw [if_pos (by omega)]; exact h'

theorem FnExactSumHex : laws_FnExactSumHex.Pure := by
  intro s _
  refine ⟨s.size + 1, ?_⟩
  unfold laws_FnExactSumHex.f
  by_cases hn : (s.size : Int) > 1048576
  · rw [if_pos hn]
  · rw [if_neg hn]
    obtain ⟨r, h, h'⟩ := both s (by omega) s.size (s.size + 1) [] 0 (by omega) (by omega) (by omega) (by omega) rfl
    unfold spec_SumHex.f impl_SumHex.f
    rw [h, h']; simp

end Go.Proofs.Ytahbndcmnpiejaa.Pure
