/- The law FnBookTexts. -/
import Derived.Test.YtkjnijddbiconaaDoorB6
import Derived.Test.YtkjnijddbiconaaDoorB6c
import Derived.Test.YtkjnijddbiconaaDoorB6d
import Derived.Test.YtkjnijddbiconaaDoorB6e
import Derived.Test.YtkjnijddbiconaaDoorB6f
import Derived.Test.YtkjnijddbiconaaDoorBL
namespace Go.Proofs.YtkjnijddbiconaaDoor.Ev
open Go
set_option linter.unusedVariables false
set_option linter.unusedSimpArgs false
set_option maxRecDepth 100000
theorem c4 (b : List (Elem ku)) (hb : okY b = true) : Ctr Tryd.prog 4 [.rsl [.int .u8] b] [] ⟨.val (.bool true), [], []⟩ := by
  refine ctr_fn ok3 hg4 Tryd.func4 (by kernel_rfl) (by kernel_rfl) (by kernel_rfl) fun C => ?_
  rw [e4]
  refine br_dec (fun _ => rfl) (fun h1 => ?_)
  have hs := bkD_ok (opB b) 0
  generalize (bkD (opB b) 0).1 = bk at hs ⊢
  have hL := btx_48 bk
  refine br_t (by rw [hb, decide_eq_true (show b.length ≤ 1048576 by omega)]; rfl) (br_t hs (br_t hs (br_f (by simp) ?_)))
  refine loopUp okf4 hg4 (α := Unit) (fun i _ => st4 bk (btx bk) (btx bk) i) (btx bk).length (fun _ _ => True) (fun N i _ hi _ next => ?_) () trivial
  show evP E4 G4 _ (lp4 9) (st4 bk (btx bk) (btx bk) i) (rk4 _ _ 9 _)
  rw [b4, wrap_id (n := (i : Int) + 1) (by omega) (by omega), wrap_id (n := (i : Int) - 1) (by omega) (by omega), Int.toNat_natCast]
  refine br_dec (fun h2 => ?_) (fun h2 => br_t hs (br_not (fun hk => ?_) (fun hk => ?_)))
  · have hi' : i < (btx bk).length := by omega
    refine br_yes ⟨by omega, h2⟩ (br_yes ⟨by omega, h2⟩ (br_f ?_ (br_yes ⟨by omega, h2⟩ (br_f (btx_full hi') (br_dec (fun h3 => br_yes ⟨by omega, h2⟩ (br_yes ⟨by omega, by omega⟩ (br_f ?_ (next hi' () trivial)))) (fun h3 => next hi' () trivial))))))
    · show (!strEq (at1 (btx bk) i) (at1 (btx bk) i)) = false
      rw [strEq_self]
      rfl
    · obtain ⟨m, rfl⟩ : ∃ m, i = m + 1 := ⟨i - 1, by omega⟩
      rw [show ((((m + 1 : Nat) : Int) - 1).toNat) = m by omega]
      exact btx_up hi'
  · show _ = _
    rw [btx_f hk]
    rfl
  have h6 := bok_len hk
  refine loopUp okf4 hg4 (α := Unit) (fun i _ => sb4 bk (btx bk) i) bk.length (fun _ _ => True) (fun N i _ hi _ next => ?_) () trivial
  show evP E4 G4 _ (lp4 16) (sb4 bk (btx bk) i) (rk4 _ _ 16 _)
  rw [bb4, wrap_id (n := (bk.length : Int) * 8) (by omega) (by omega)]
  refine br_dec (fun h2 => ?_) (fun h2 => ?_)
  · have hi' : i < bk.length := by omega
    have dI : 0 ≤ (i : Int) ∧ (i : Int) < (bk.length : Int) := ⟨by omega, h2⟩
    refine loopUp okf4 hg4 (α := Unit) (fun j _ => sc4 bk (btx bk) i j) 8 (fun _ _ => True) (fun N2 j _ hj _ next2 => ?_) () trivial
    have cs : j = 0 ∨ j = 1 ∨ j = 2 ∨ j = 3 ∨ j = 4 ∨ j = 5 ∨ j = 6 ∨ j = 7 ∨ j = 8 := by omega
    rcases cs with rfl | rfl | rfl | rfl | rfl | rfl | rfl | rfl | rfl
    · show evP E4 G4 _ (lp4 19) (sc4 bk (btx bk) i 0) (rkn4 _ _ 16 N 19 _)
      rw [cc4_0]
      refine br_yes dI ?_
      refine loopUp okf4 hg4 (α := Bool) (fun k th => sd4 bk (btx bk) i 0 th k) (btx bk).length (fun k th => th = true ∨ ∃ m, k ≤ m ∧ m < (btx bk).length ∧ strEq (at1 (btx bk) m) (at1 (bks (atB bk i)) 0) = true) (fun N3 k th hk2 hth next3 => ?_) _ ?_
      · show evP E4 G4 _ (lp4 23) (sd4 bk (btx bk) i 0 th k) (rkt4 _ _ N N2 _)
        rw [dd4_0, wrap_id (n := (k : Int) + 1) (by omega) (by omega), Int.toNat_natCast, Int.toNat_natCast]
        refine br_dec (fun h3 => br_intro (fun h4 => next3 (by omega) true (.inl rfl)) (fun h4 => br_yes ⟨by omega, h3⟩ (br_yes dI (next3 (by omega) _ ?_)))) (fun h3 => br_f ?_ (next2 (by omega) () trivial))
        · rcases hth with h | ⟨m, m1, m2, m3⟩
          · rw [h4] at h; cases h
          · by_cases e : m = k
            · subst e
              exact .inl m3
            · exact .inr ⟨m, by omega, m2, m3⟩
        · rcases hth with h | ⟨m, m1, m2, m3⟩
          · rw [h]; rfl
          · omega
      · cases he : strEq (at1 (bks (atB bk i)) 0) ⟨#[]⟩ with
        | true => exact .inl he
        | false =>
          obtain ⟨m, m1, m2⟩ := btx_has hk hi' (by omega) he
          exact .inr ⟨m, Nat.zero_le _, m1, m2⟩
    · show evP E4 G4 _ (lp4 19) (sc4 bk (btx bk) i 1) (rkn4 _ _ 16 N 19 _)
      rw [cc4_1]
      refine br_yes dI ?_
      refine loopUp okf4 hg4 (α := Bool) (fun k th => sd4 bk (btx bk) i 1 th k) (btx bk).length (fun k th => th = true ∨ ∃ m, k ≤ m ∧ m < (btx bk).length ∧ strEq (at1 (btx bk) m) (at1 (bks (atB bk i)) 1) = true) (fun N3 k th hk2 hth next3 => ?_) _ ?_
      · show evP E4 G4 _ (lp4 23) (sd4 bk (btx bk) i 1 th k) (rkt4 _ _ N N2 _)
        rw [dd4_1, wrap_id (n := (k : Int) + 1) (by omega) (by omega), Int.toNat_natCast, Int.toNat_natCast]
        refine br_dec (fun h3 => br_intro (fun h4 => next3 (by omega) true (.inl rfl)) (fun h4 => br_yes ⟨by omega, h3⟩ (br_yes dI (next3 (by omega) _ ?_)))) (fun h3 => br_f ?_ (next2 (by omega) () trivial))
        · rcases hth with h | ⟨m, m1, m2, m3⟩
          · rw [h4] at h; cases h
          · by_cases e : m = k
            · subst e
              exact .inl m3
            · exact .inr ⟨m, by omega, m2, m3⟩
        · rcases hth with h | ⟨m, m1, m2, m3⟩
          · rw [h]; rfl
          · omega
      · cases he : strEq (at1 (bks (atB bk i)) 1) ⟨#[]⟩ with
        | true => exact .inl he
        | false =>
          obtain ⟨m, m1, m2⟩ := btx_has hk hi' (by omega) he
          exact .inr ⟨m, Nat.zero_le _, m1, m2⟩
    · show evP E4 G4 _ (lp4 19) (sc4 bk (btx bk) i 2) (rkn4 _ _ 16 N 19 _)
      rw [cc4_2]
      refine br_yes dI ?_
      refine loopUp okf4 hg4 (α := Bool) (fun k th => sd4 bk (btx bk) i 2 th k) (btx bk).length (fun k th => th = true ∨ ∃ m, k ≤ m ∧ m < (btx bk).length ∧ strEq (at1 (btx bk) m) (at1 (bks (atB bk i)) 2) = true) (fun N3 k th hk2 hth next3 => ?_) _ ?_
      · show evP E4 G4 _ (lp4 23) (sd4 bk (btx bk) i 2 th k) (rkt4 _ _ N N2 _)
        rw [dd4_2, wrap_id (n := (k : Int) + 1) (by omega) (by omega), Int.toNat_natCast, Int.toNat_natCast]
        refine br_dec (fun h3 => br_intro (fun h4 => next3 (by omega) true (.inl rfl)) (fun h4 => br_yes ⟨by omega, h3⟩ (br_yes dI (next3 (by omega) _ ?_)))) (fun h3 => br_f ?_ (next2 (by omega) () trivial))
        · rcases hth with h | ⟨m, m1, m2, m3⟩
          · rw [h4] at h; cases h
          · by_cases e : m = k
            · subst e
              exact .inl m3
            · exact .inr ⟨m, by omega, m2, m3⟩
        · rcases hth with h | ⟨m, m1, m2, m3⟩
          · rw [h]; rfl
          · omega
      · cases he : strEq (at1 (bks (atB bk i)) 2) ⟨#[]⟩ with
        | true => exact .inl he
        | false =>
          obtain ⟨m, m1, m2⟩ := btx_has hk hi' (by omega) he
          exact .inr ⟨m, Nat.zero_le _, m1, m2⟩
    · show evP E4 G4 _ (lp4 19) (sc4 bk (btx bk) i 3) (rkn4 _ _ 16 N 19 _)
      rw [cc4_3]
      refine br_yes dI ?_
      refine loopUp okf4 hg4 (α := Bool) (fun k th => sd4 bk (btx bk) i 3 th k) (btx bk).length (fun k th => th = true ∨ ∃ m, k ≤ m ∧ m < (btx bk).length ∧ strEq (at1 (btx bk) m) (at1 (bks (atB bk i)) 3) = true) (fun N3 k th hk2 hth next3 => ?_) _ ?_
      · show evP E4 G4 _ (lp4 23) (sd4 bk (btx bk) i 3 th k) (rkt4 _ _ N N2 _)
        rw [dd4_3, wrap_id (n := (k : Int) + 1) (by omega) (by omega), Int.toNat_natCast, Int.toNat_natCast]
        refine br_dec (fun h3 => br_intro (fun h4 => next3 (by omega) true (.inl rfl)) (fun h4 => br_yes ⟨by omega, h3⟩ (br_yes dI (next3 (by omega) _ ?_)))) (fun h3 => br_f ?_ (next2 (by omega) () trivial))
        · rcases hth with h | ⟨m, m1, m2, m3⟩
          · rw [h4] at h; cases h
          · by_cases e : m = k
            · subst e
              exact .inl m3
            · exact .inr ⟨m, by omega, m2, m3⟩
        · rcases hth with h | ⟨m, m1, m2, m3⟩
          · rw [h]; rfl
          · omega
      · cases he : strEq (at1 (bks (atB bk i)) 3) ⟨#[]⟩ with
        | true => exact .inl he
        | false =>
          obtain ⟨m, m1, m2⟩ := btx_has hk hi' (by omega) he
          exact .inr ⟨m, Nat.zero_le _, m1, m2⟩
    · show evP E4 G4 _ (lp4 19) (sc4 bk (btx bk) i 4) (rkn4 _ _ 16 N 19 _)
      rw [cc4_4]
      refine br_yes dI ?_
      refine loopUp okf4 hg4 (α := Bool) (fun k th => sd4 bk (btx bk) i 4 th k) (btx bk).length (fun k th => th = true ∨ ∃ m, k ≤ m ∧ m < (btx bk).length ∧ strEq (at1 (btx bk) m) (at1 (bks (atB bk i)) 4) = true) (fun N3 k th hk2 hth next3 => ?_) _ ?_
      · show evP E4 G4 _ (lp4 23) (sd4 bk (btx bk) i 4 th k) (rkt4 _ _ N N2 _)
        rw [dd4_4, wrap_id (n := (k : Int) + 1) (by omega) (by omega), Int.toNat_natCast, Int.toNat_natCast]
        refine br_dec (fun h3 => br_intro (fun h4 => next3 (by omega) true (.inl rfl)) (fun h4 => br_yes ⟨by omega, h3⟩ (br_yes dI (next3 (by omega) _ ?_)))) (fun h3 => br_f ?_ (next2 (by omega) () trivial))
        · rcases hth with h | ⟨m, m1, m2, m3⟩
          · rw [h4] at h; cases h
          · by_cases e : m = k
            · subst e
              exact .inl m3
            · exact .inr ⟨m, by omega, m2, m3⟩
        · rcases hth with h | ⟨m, m1, m2, m3⟩
          · rw [h]; rfl
          · omega
      · cases he : strEq (at1 (bks (atB bk i)) 4) ⟨#[]⟩ with
        | true => exact .inl he
        | false =>
          obtain ⟨m, m1, m2⟩ := btx_has hk hi' (by omega) he
          exact .inr ⟨m, Nat.zero_le _, m1, m2⟩
    · show evP E4 G4 _ (lp4 19) (sc4 bk (btx bk) i 5) (rkn4 _ _ 16 N 19 _)
      rw [cc4_5]
      refine br_yes dI ?_
      refine loopUp okf4 hg4 (α := Bool) (fun k th => sd4 bk (btx bk) i 5 th k) (btx bk).length (fun k th => th = true ∨ ∃ m, k ≤ m ∧ m < (btx bk).length ∧ strEq (at1 (btx bk) m) (at1 (bks (atB bk i)) 5) = true) (fun N3 k th hk2 hth next3 => ?_) _ ?_
      · show evP E4 G4 _ (lp4 23) (sd4 bk (btx bk) i 5 th k) (rkt4 _ _ N N2 _)
        rw [dd4_5, wrap_id (n := (k : Int) + 1) (by omega) (by omega), Int.toNat_natCast, Int.toNat_natCast]
        refine br_dec (fun h3 => br_intro (fun h4 => next3 (by omega) true (.inl rfl)) (fun h4 => br_yes ⟨by omega, h3⟩ (br_yes dI (next3 (by omega) _ ?_)))) (fun h3 => br_f ?_ (next2 (by omega) () trivial))
        · rcases hth with h | ⟨m, m1, m2, m3⟩
          · rw [h4] at h; cases h
          · by_cases e : m = k
            · subst e
              exact .inl m3
            · exact .inr ⟨m, by omega, m2, m3⟩
        · rcases hth with h | ⟨m, m1, m2, m3⟩
          · rw [h]; rfl
          · omega
      · cases he : strEq (at1 (bks (atB bk i)) 5) ⟨#[]⟩ with
        | true => exact .inl he
        | false =>
          obtain ⟨m, m1, m2⟩ := btx_has hk hi' (by omega) he
          exact .inr ⟨m, Nat.zero_le _, m1, m2⟩
    · show evP E4 G4 _ (lp4 19) (sc4 bk (btx bk) i 6) (rkn4 _ _ 16 N 19 _)
      rw [cc4_6]
      refine br_yes dI ?_
      refine loopUp okf4 hg4 (α := Bool) (fun k th => sd4 bk (btx bk) i 6 th k) (btx bk).length (fun k th => th = true ∨ ∃ m, k ≤ m ∧ m < (btx bk).length ∧ strEq (at1 (btx bk) m) (at1 (bks (atB bk i)) 6) = true) (fun N3 k th hk2 hth next3 => ?_) _ ?_
      · show evP E4 G4 _ (lp4 23) (sd4 bk (btx bk) i 6 th k) (rkt4 _ _ N N2 _)
        rw [dd4_6, wrap_id (n := (k : Int) + 1) (by omega) (by omega), Int.toNat_natCast, Int.toNat_natCast]
        refine br_dec (fun h3 => br_intro (fun h4 => next3 (by omega) true (.inl rfl)) (fun h4 => br_yes ⟨by omega, h3⟩ (br_yes dI (next3 (by omega) _ ?_)))) (fun h3 => br_f ?_ (next2 (by omega) () trivial))
        · rcases hth with h | ⟨m, m1, m2, m3⟩
          · rw [h4] at h; cases h
          · by_cases e : m = k
            · subst e
              exact .inl m3
            · exact .inr ⟨m, by omega, m2, m3⟩
        · rcases hth with h | ⟨m, m1, m2, m3⟩
          · rw [h]; rfl
          · omega
      · cases he : strEq (at1 (bks (atB bk i)) 6) ⟨#[]⟩ with
        | true => exact .inl he
        | false =>
          obtain ⟨m, m1, m2⟩ := btx_has hk hi' (by omega) he
          exact .inr ⟨m, Nat.zero_le _, m1, m2⟩
    · show evP E4 G4 _ (lp4 19) (sc4 bk (btx bk) i 7) (rkn4 _ _ 16 N 19 _)
      rw [cc4_7]
      refine br_yes dI ?_
      refine loopUp okf4 hg4 (α := Bool) (fun k th => sd4 bk (btx bk) i 7 th k) (btx bk).length (fun k th => th = true ∨ ∃ m, k ≤ m ∧ m < (btx bk).length ∧ strEq (at1 (btx bk) m) (at1 (bks (atB bk i)) 7) = true) (fun N3 k th hk2 hth next3 => ?_) _ ?_
      · show evP E4 G4 _ (lp4 23) (sd4 bk (btx bk) i 7 th k) (rkt4 _ _ N N2 _)
        rw [dd4_7, wrap_id (n := (k : Int) + 1) (by omega) (by omega), Int.toNat_natCast, Int.toNat_natCast]
        refine br_dec (fun h3 => br_intro (fun h4 => next3 (by omega) true (.inl rfl)) (fun h4 => br_yes ⟨by omega, h3⟩ (br_yes dI (next3 (by omega) _ ?_)))) (fun h3 => br_f ?_ (next2 (by omega) () trivial))
        · rcases hth with h | ⟨m, m1, m2, m3⟩
          · rw [h4] at h; cases h
          · by_cases e : m = k
            · subst e
              exact .inl m3
            · exact .inr ⟨m, by omega, m2, m3⟩
        · rcases hth with h | ⟨m, m1, m2, m3⟩
          · rw [h]; rfl
          · omega
      · cases he : strEq (at1 (bks (atB bk i)) 7) ⟨#[]⟩ with
        | true => exact .inl he
        | false =>
          obtain ⟨m, m1, m2⟩ := btx_has hk hi' (by omega) he
          exact .inr ⟨m, Nat.zero_le _, m1, m2⟩
    · show evP E4 G4 _ (lp4 19) (sc4 bk (btx bk) i 8) (rkn4 _ _ 16 N 19 _)
      rw [cc4_8, wrap_id (n := (i : Int) + 1) (by omega) (by omega)]
      exact next hi' () trivial
  · show _ = _
    have := btx_len bk
    rw [decide_eq_true (show ((btx bk).length : Int) ≤ (bk.length : Int) * 8 by omega)]
theorem okY_of {b : List (Elem ku)} (h : ∀ e ∈ b, elemOk ku e) : okY b = true := by
  unfold okY
  rw [List.all_eq_true]
  intro e he
  have h1 : (decide (IntKind.u8.min ≤ (e.1 : Int)) && decide ((e.1 : Int) ≤ IntKind.u8.max)) = true := (h e he).1
  simp only [Bool.and_eq_true, decide_eq_true_eq] at h1
  have e0 : IntKind.u8.min = 0 := rfl
  have e1 : IntKind.u8.max = 255 := rfl
  have this : 0 ≤ (e.1 : Int) ∧ (e.1 : Int) ≤ 255 := by
    rw [e0, e1] at h1
    exact h1
  exact decide_eq_true this
end Go.Proofs.YtkjnijddbiconaaDoor.Ev
