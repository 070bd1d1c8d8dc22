/- Lists of dedup entries that are drawn. -/
import Derived.Test.YtkjnijddbiconaaL2
namespace Go.Proofs.Ytkjnijddbiconaa.Ev
open Go
set_option linter.unusedVariables false
set_option linter.unusedSimpArgs false
set_option maxRecDepth 100000
theorem lsW_size (i : Nat) : (at1 lsW i).size ≤ 3 := by
  unfold at1 lsW
  match i with
  | 0 | 1 | 2 | 3 => decide
  | i + 4 => exact Nat.zero_le _
theorem daR_len (xs : List (Elem k3)) (s t : Int) : (daR xs s t).1.length ≤ xs.length + 1 := by
  have hk := lnD_le xs t
  unfold daR
  repeat' split
  all_goals simp
  omega
theorem lsA_lt {b : List (Elem ku)} (hb : okB b = true) {p : Int} (h0 : 0 ≤ p) (h1 : p ≤ 1000000) : 1 ≤ lsA b p ∧ lsA b p ≤ 11 := by
  have := pk_lt hb h0 (show p ≤ 1048576 by omega) (show (1 : Int) ≤ 11 by omega)
  unfold lsA
  rw [wrap_id (by omega) (by omega)]
  omega
theorem sec12 {s i : Int} (hs : 0 ≤ s) (hs' : s ≤ 1) (h0 : 1 ≤ i) (h1 : i ≤ 11) : secOk z12.length s i = true := by
  have : z12.length = 12 := rfl
  rw [this]
  simp only [secOk, Bool.and_eq_true, decide_eq_true_eq]
  omega
theorem dk12 : dkOk z12 z12 [] = true := by decide +kernel
theorem ls_dw {b : List (Elem ku)} (hb : okB b = true) {p : Int} (h0 : 0 ≤ p) (h1 : p ≤ 900000) {c : List (Elem kl)} (hd : dkOk z12 z12 c = true) (hc : c.length ≤ 100) : dwG z12 z12 c 0 (lsA b p) (lsT b p) 599 = true := by
  have hA := lsA_lt hb h0 (by omega)
  have hT := lsW_size (pk b (p + 1) 4).toNat
  unfold dwG
  rw [hd, sec12 (by omega) (by omega) hA.1 hA.2, decide_eq_true (show c.length < 599 by omega), decide_eq_true (show (lsT b p).size ≤ 420 by unfold lsT; omega)]
  rfl
theorem lsC_ok {b : List (Elem ku)} (hb : okB b = true) {p : Int} (h0 : 0 ≤ p) (h1 : p ≤ 900000) {c : List (Elem kl)} (hd : dkOk z12 z12 c = true) (hc : c.length ≤ 100) (l : List (Elem k3)) :
    dkOk z12 z12 (lsC b p c l) = true ∧ (lsC b p c l).length ≤ c.length + 2 := by
  have hw := ls_dw hb h0 h1 hd hc
  unfold lsC
  split
  · refine ⟨dkOk_app (dwG_next hw).2 (Nat.le_refl _), ?_⟩
    rw [List.length_append, List.length_append]
    exact Nat.le_refl _
  · exact ⟨hd, by omega⟩
theorem ls_ok {b : List (Elem ku)} (hb : okB b = true) {p : Int} (h0 : 0 ≤ p) (h1 : p ≤ 800000) : ∀ j : Nat, j ≤ 8 → dkOk z12 z12 (ls b p j).1 = true ∧ (ls b p j).1.length ≤ 2 * j ∧ (ls b p j).2.length ≤ j
  | 0, _ => ⟨dk12, Nat.zero_le _, Nat.zero_le _⟩
  | j + 1, hj => by
    obtain ⟨i1, i2, i3⟩ := ls_ok hb h0 h1 j (by omega)
    obtain ⟨c1, c2⟩ := lsC_ok hb (p := p + 2 * (j : Int)) (by omega) (by omega) i1 (by omega) (ls b p j).2
    have := daR_len (ls b p j).2 (sumN (rdA z12 z12 (lsC b (p + 2 * (j : Int)) (ls b p j).1 (ls b p j).2) 0 (lsA b (p + 2 * (j : Int))))) (lsA b (p + 2 * (j : Int)))
    refine ⟨c1, ?_, ?_⟩
    · show (lsC b (p + 2 * (j : Int)) (ls b p j).1 (ls b p j).2).length ≤ _
      omega
    · show (lsN b (p + 2 * (j : Int)) (ls b p j).1 (ls b p j).2).length ≤ _
      unfold lsN
      omega
theorem sm12 {c : List (Elem kl)} (h : c.length ≤ 1000) : smD z12 z12 c = true := by
  have : z12.length = 12 := rfl
  unfold smD
  rw [this, decide_eq_true (show c.length ≤ 1048576 by omega)]
  rfl
theorem h28 : G1Ok Try.prog 28 g28 := by
  intro args obs k h
  unfold g28 at h
  split at h
  · rename_i k b p
    obtain ⟨hq, h⟩ := br_and h
    simp only [Bool.and_eq_true, decide_eq_true_eq] at hq
    obtain ⟨hb, hl, hp0, hp1⟩ := hq
    refine ⟨_, ctr_fn okr hg28 Try.func28 (by kernel_rfl) (by kernel_rfl) (by kernel_rfl) fun C => ?_, h⟩
    rw [e28]
    have hlen : decide (b.length ≤ 1048576) = true := decide_eq_true hl
    have hd : ∀ x : Int, 0 ≤ x → x ≤ 1000000 → (okB b && (decide (b.length ≤ 1048576) && (decide (0 ≤ x ∧ x ≤ 1000000) && true))) = true := fun x h0 h1 => by
      rw [hb, hlen, decide_eq_true (And.intro h0 h1)]
      rfl
    have h30 := pk_lt hb hp0 (show p ≤ 1048576 by omega) (show (1 : Int) ≤ 8 by omega)
    refine br_t (hd p (by omega) (by omega)) ?_
    obtain ⟨n, hn⟩ : ∃ n : Nat, pk b p 8 = n := ⟨(pk b p 8).toNat, by omega⟩
    have hn8 : n < 8 := by omega
    show LoopOk _ _ _ (st28 b (p + 1) z12 z12 [] [] (pk b p 8)) _
    rw [show st28 b (p + 1) z12 z12 [] [] (pk b p 8) = st28 b (p + 1 + 2 * ((0 : Nat) : Int)) z12 z12 (ls b (p + 1) 0).1 (ls b (p + 1) 0).2 ((n : Int) - ((0 : Nat) : Int)) from by rw [hn]; simp [ls]]
    refine loopSeq okf28 hg28 (fun j => st28 b (p + 1 + 2 * (j : Int)) z12 z12 (ls b (p + 1) j).1 (ls b (p + 1) j).2 ((n : Int) - (j : Int))) n (fun N j hj next => ?_) (fun N => ?_)
    · obtain ⟨i1, i2, i3⟩ := ls_ok hb (p := p + 1) (by omega) (by omega) j (by omega)
      obtain ⟨c1, c2⟩ := lsC_ok hb (p := p + 1 + 2 * (j : Int)) (by omega) (by omega) i1 (by omega) (ls b (p + 1) j).2
      have hw := ls_dw hb (p := p + 1 + 2 * (j : Int)) (by omega) (by omega) i1 (by omega)
      have hR := rdA_size z12 z12 (lsC b (p + 1 + 2 * (j : Int)) (ls b (p + 1) j).1 (ls b (p + 1) j).2) 0 (lsA b (p + 1 + 2 * (j : Int)))
      have next' : N (st28 b (p + 1 + 2 * (j : Int) + 1 + 1) z12 z12 (lsC b (p + 1 + 2 * (j : Int)) (ls b (p + 1) j).1 (ls b (p + 1) j).2) (lsN b (p + 1 + 2 * (j : Int)) (ls b (p + 1) j).1 (ls b (p + 1) j).2) ((n : Int) - (j : Int) - 1)) := by
        have e1 : p + 1 + 2 * (j : Int) + 1 + 1 = p + 1 + 2 * ((j + 1 : Nat) : Int) := by omega
        have e2 : (n : Int) - (j : Int) - 1 = (n : Int) - ((j + 1 : Nat) : Int) := by omega
        rw [e1, e2]
        exact next
      show evP E28 G28 _ (lp28 4) (st28 b (p + 1 + 2 * (j : Int)) z12 z12 (ls b (p + 1) j).1 (ls b (p + 1) j).2 ((n : Int) - (j : Int))) (rk28 _ _ 4 _)
      rw [b28, wrap_id (n := (n : Int) - (j : Int) - 1) (by omega) (by omega)]
      generalize (ls b (p + 1) j).1 = c at *
      generalize (ls b (p + 1) j).2 = l at *
      generalize hP : p + 1 + 2 * (j : Int) = P at *
      refine br_yes (by omega) (br_t (hd _ (by omega) (by omega)) (br_t (hd _ (by omega) (by omega)) (br_yes (by omega) (br_intro (fun h1 => ?_) (fun h1 => ?_)))))
      · have h1 : (dcN l (lsA b P) == 0) = true := h1
        have eC : lsC b P c l = c ++ [(0, lsA b P, lsT b P, ())] ++ [(1, lsA b P, lsT b P, ())] := by unfold lsC; rw [h1]
        unfold lsN at next'
        rw [eC] at hR c2 next'
        have hs : smD z12 z12 (c ++ [(0, lsA b P, lsT b P, ())] ++ [(1, lsA b P, lsT b P, ())]) = true := sm12 (by omega)
        refine br_t hw (br_t hs (br_yes ?_ (br_yes (by omega) next')))
        exact Nat.le_trans hR (by decide)
      · have h1 : (dcN l (lsA b P) == 0) = false := h1
        have eC : lsC b P c l = c := by unfold lsC; rw [h1]
        unfold lsN at next'
        rw [eC] at hR c2 next'
        refine br_t (sm12 (by omega)) (br_yes ?_ (br_yes (by omega) next'))
        exact Nat.le_trans hR (by decide)
    · obtain ⟨i1, i2, i3⟩ := ls_ok hb (p := p + 1) (by omega) (by omega) n (by omega)
      show evP E28 G28 _ (lp28 4) (st28 b (p + 1 + 2 * (n : Int)) z12 z12 (ls b (p + 1) n).1 (ls b (p + 1) n).2 ((n : Int) - (n : Int))) (rk28 _ _ 4 _)
      have eR : lsR b p = ls b (p + 1) n := by unfold lsR; rw [hn, Int.toNat_natCast]
      have eQ : lsQ b p = p + 1 + 2 * (n : Int) := by unfold lsQ; rw [hn, Int.toNat_natCast]
      rw [b28, eR, eQ]
      generalize (ls b (p + 1) n).1 = c at *
      generalize (ls b (p + 1) n).2 = l at *
      generalize hP : p + 1 + 2 * (n : Int) = P at *
      refine br_no (by omega) (br_intro (fun h1 => ?_) (fun h1 => ?_))
      · have hl0 : 0 < l.length := by have := of_decide_eq_true h1; omega
        have hk := pk_lt hb (p := P) (n := (l.length : Int)) (by omega) (by omega) (by omega)
        unfold lfL lfP
        rw [h1]
        refine br_t (by rw [hb, hlen, decide_eq_true (show 0 ≤ P ∧ P ≤ 1000000 by omega)]; exact decide_eq_true (by omega)) (br_t (hd _ (by omega) (by omega)) (br_intro (fun h2 => ?_) (fun h2 => br_intro (fun h3 => ?_) (fun h3 => br_intro (fun h4 => ?_) (fun h4 => br_intro (fun h5 => ?_) (fun h5 => ?_))))))
        · refine br_t (hd _ (by omega) (by omega)) (br_yes hk ?_)
          rw [h2]
          rfl
        · refine br_t (hd _ (by omega) (by omega)) (br_yes hk ?_)
          rw [h2, h3]
          rfl
        · refine br_t (hd _ (by omega) (by omega)) (br_yes hk ?_)
          rw [h2, h3, h4]
          rfl
        · refine br_yes hk (br_yes ?_ ?_)
          · show (l.length + 1) * 24 ≤ _
            omega
          · rw [h2, h3, h4, h5]
            rfl
        · rw [h2, h3, h4, h5]
          rfl
      · unfold lfL lfP
        rw [h1]
  · exact h.elim
end Go.Proofs.Ytkjnijddbiconaa.Ev
