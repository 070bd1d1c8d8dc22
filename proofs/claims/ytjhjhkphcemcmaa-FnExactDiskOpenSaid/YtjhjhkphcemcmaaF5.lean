/- The place of an entry: both ways of looking find the same; the law of DdtCount. -/
import Derived.Test.YtjhjhkphcemcmaaF4
namespace Go.Proofs.Ytjhjhkphcemcmaa.Ev
open Go
set_option linter.unusedVariables false
set_option linter.unusedSimpArgs false
set_option maxRecDepth 100000
theorem ddtOk_len {xs : List (Elem k3)} (h : ddtOk xs = true) : xs.length ≤ 48 := by
  simp [ddtOk] at h; exact h.1
theorem ddtOk_at {xs : List (Elem k3)} (h : ddtOk xs = true) {k : Nat} (hk : k < xs.length) : okAt xs k = true := by
  simp only [ddtOk, Bool.and_eq_true, List.all_eq_true] at h
  exact h.2 k (by simp; exact hk)
def atI (xs : List (Elem k3)) (k : Nat) : Int := (at3 xs k).2.1
theorem ddtOk_entry {xs : List (Elem k3)} (h : ddtOk xs = true) {k : Nat} (hk : k < xs.length) : 1 ≤ atI xs k ∧ atI xs k ≤ 119 := by
  have := ddtOk_at h hk
  simp only [okAt, entryOk, within, Bool.and_eq_true, decide_eq_true_eq] at this
  exact ⟨this.1.1.2.1, this.1.1.2.2⟩
theorem ddtOk_step {xs : List (Elem k3)} (h : ddtOk xs = true) {k : Nat} (hk : k + 1 < xs.length) : atI xs k < atI xs (k + 1) := by
  have := ddtOk_at h hk
  simp [okAt] at this
  exact this.2
theorem ddtOk_mono {xs : List (Elem k3)} (h : ddtOk xs = true) : ∀ (d k : Nat), k + d < xs.length → atI xs k + d ≤ atI xs (k + d)
  | 0, k, _ => by simp
  | d + 1, k, hk => by
    have h1 := ddtOk_mono h d k (by omega)
    have h2 := ddtOk_step h (k := k + d) (by omega)
    have e : k + (d + 1) = k + d + 1 := by omega
    rw [e]
    omega
theorem lnf_ok (xs : List (Elem k3)) (t : Int) : ∀ (n i : Nat), i ≤ lnf xs t i n ∧ lnf xs t i n ≤ i + n ∧ (∀ k, i ≤ k → k < lnf xs t i n → atI xs k < t) ∧ (lnf xs t i n < i + n → ¬ atI xs (lnf xs t i n) < t)
  | 0, i => by simp [lnf]; intro k h1 h2; omega
  | n + 1, i => by
    simp only [lnf]
    split
    · rename_i hp
      obtain ⟨h1, h2, h3, h4⟩ := lnf_ok xs t n (i + 1)
      refine ⟨by omega, by omega, fun k hk1 hk2 => ?_, fun h => h4 (by omega)⟩
      by_cases e : k = i
      · rw [e]; exact hp
      · exact h3 k (by omega) hk2
    · rename_i hp
      exact ⟨Nat.le_refl _, by omega, fun k h1 h2 => by omega, fun _ => hp⟩
theorem bsf_ok (p : Nat → Bool) (n : Nat) (hp : ∀ a b, a ≤ b → b < n → p b = true → p a = true) : ∀ (i j : Nat), i ≤ j → j ≤ n → (∀ k, k < i → p k = true) → (∀ k, j ≤ k → k < n → p k = false) →
    (∀ k, k < bsf p i j → p k = true) ∧ (∀ k, bsf p i j ≤ k → k < n → p k = false) := by
  intro i j
  fun_induction bsf p i j with
  | case1 i j hlt hm ih =>
    intro h1 h2 h3 h4
    refine ih (by omega) h2 (fun k hk => hp k ((i + j) / 2) (by omega) (by omega) hm) h4
  | case2 i j hlt hm ih =>
    intro h1 h2 h3 h4
    refine ih (by omega) (by omega) h3 (fun k hk hn => ?_)
    cases hk' : p k with
    | false => rfl
    | true => exact absurd (hp _ k hk hn hk') hm
  | case3 i j hlt =>
    intro h1 h2 h3 h4
    exact ⟨h3, fun k hk hn => h4 k (by omega) hn⟩
theorem bs_ln {xs : List (Elem k3)} (h : ddtOk xs = true) {t : Int} (h1 : -9223372036854775808 ≤ t) (h2 : t ≤ 9223372036854775807) : bsOk xs t = lnOk xs t ∧ (lnOk xs t = true → bsAt xs t = lnAt xs t) := by
  have hlen := ddtOk_len h
  obtain ⟨l1, l2, l3, l4⟩ := lnf_ok xs t xs.length 0
  have hln : lnf xs t 0 xs.length = lnAt xs t := rfl
  rw [hln] at l1 l2 l3 l4
  by_cases ht : -9223372036854775000 ≤ t
  · have hw : ∀ k, k < xs.length → IntKind.i64.wrap (atI xs k - t) = atI xs k - t := by
      intro k hk
      have := ddtOk_entry h hk
      exact wrap_id (by omega) (by omega)
    have hc : ∀ k, k < xs.length → cmL xs t k = decide (atI xs k < t) := by
      intro k hk
      show decide (IntKind.i64.wrap (atI xs k - t) < 0) = _
      rw [hw k hk]
      apply decide_eq_decide.2
      omega
    obtain ⟨b1, b2⟩ := bsf_ok (cmL xs t) xs.length (fun a b hab hb hp => by
      rw [hc b hb] at hp
      rw [hc a (by omega)]
      have := ddtOk_mono h (b - a) a (by omega)
      have e : a + (b - a) = b := by omega
      rw [e] at this
      simp at hp ⊢
      omega) 0 xs.length (Nat.zero_le _) (Nat.le_refl _) (fun k hk => by omega) (fun k h1 h2 => by omega)
    obtain ⟨c1, c2⟩ := bsf_le (cmL xs t) 0 xs.length (Nat.zero_le _)
    have hbs : bsf (cmL xs t) 0 xs.length = bsAt xs t := rfl
    rw [hbs] at b1 b2 c1 c2
    have heq : bsAt xs t = lnAt xs t := by
      rcases Nat.lt_trichotomy (bsAt xs t) (lnAt xs t) with hh | hh | hh
      · have g1 := l3 (bsAt xs t) (Nat.zero_le _) hh
        have g2 := b2 (bsAt xs t) (Nat.le_refl _) (by omega)
        rw [hc _ (by omega)] at g2
        simp at g2
        omega
      · exact hh
      · have g1 := b1 (lnAt xs t) hh
        rw [hc _ (by omega)] at g1
        simp at g1
        exact absurd g1 (l4 (by omega))
    refine ⟨?_, fun _ => heq⟩
    show (decide (bsAt xs t < xs.length) && (IntKind.i64.wrap (atI xs (bsAt xs t) - t) == 0)) = (decide (lnAt xs t < xs.length) && (atI xs (lnAt xs t) == t))
    rw [heq]
    by_cases hk : lnAt xs t < xs.length
    · rw [hw _ hk]
      simp only [hk, decide_true, Bool.true_and]
      rw [Bool.eq_iff_iff]
      simp
      omega
    · simp [hk]
  · have e1 : lnOk xs t = false := by
      show (decide (lnAt xs t < xs.length) && (atI xs (lnAt xs t) == t)) = false
      by_cases hk : lnAt xs t < xs.length
      · have := ddtOk_entry h hk
        simp
        intro _
        omega
      · simp [hk]
    have e2 : bsOk xs t = false := by
      show (decide (bsAt xs t < xs.length) && (IntKind.i64.wrap (atI xs (bsAt xs t) - t) == 0)) = false
      by_cases hk : bsAt xs t < xs.length
      · have := ddtOk_entry h hk
        have hne : ¬ IntKind.i64.wrap (atI xs (bsAt xs t) - t) = 0 := by rw [IntKind.wrap_i64]; omega
        simp [hne]
      · simp [hk]
    rw [e1, e2]
    exact ⟨rfl, fun h => by cases h⟩
theorem h28 : G1Ok Try.prog 28 g28 := by
  intro args obs k h
  unfold g28 at h
  split at h
  · rename_i k xs t
    obtain ⟨hlen, h⟩ := br_and h
    obtain ⟨ht, h⟩ := br_and h
    refine ⟨_, ctr_fn ok0 hg28 Try.func28 (by kernel_rfl) (by kernel_rfl) (by kernel_rfl) fun C => ?_, h⟩
    rw [e28, hlen]
    refine br_intro (fun _ => ?_) (fun h => by cases h)
    refine br_intro (fun _ => ?_) (fun h => by cases h)
    refine br_intro (fun h => ?_) (fun h => ?_)
    · show _ = _
      have : ddtOk xs = false := by simpa using h
      simp [cntOf, this]
    · have hd : ddtOk xs = true := by simpa using h
      refine br_intro (fun h => ?_) (fun h => ?_)
      · show _ = _
        have : lnOk xs t = false := by simpa using h
        simp [cntOf, this]
      · have hl : lnOk xs t = true := by simpa using h
        have hlt : lnAt xs t < xs.length := by
          unfold lnOk at hl
          simp at hl
          exact hl.1
        refine br_intro (fun _ => ?_) (fun h => by simp at h; omega)
        show _ = _
        simp only [cntOf, hd, hl, Bool.and_self, if_true, Int.toNat_natCast]
        rfl
  · exact h.elim
theorem h29 : G1Ok Try.prog 29 g28 := by
  intro args obs k h
  unfold g28 at h
  split at h
  · rename_i k xs t
    obtain ⟨hlen, h⟩ := br_and h
    obtain ⟨ht, h⟩ := br_and h
    simp at ht
    refine ⟨_, ctr_fn ok0 hg29 Try.func29 (by kernel_rfl) (by kernel_rfl) (by kernel_rfl) fun C => ?_, h⟩
    rw [e29, hlen]
    refine br_intro (fun _ => ?_) (fun h => by cases h)
    refine br_intro (fun h => ?_) (fun h => ?_)
    · show _ = _
      have : ddtOk xs = false := by simpa using h
      simp [cntOf, this]
    · have hd : ddtOk xs = true := by simpa using h
      obtain ⟨hb1, hb2⟩ := bs_ln hd ht.1 ht.2
      refine br_intro (fun _ => ?_) (fun h => by cases h)
      rw [hb1]
      refine br_intro (fun h => ?_) (fun h => ?_)
      · show _ = _
        have : lnOk xs t = false := by simpa using h
        simp [cntOf, this]
      · have hl : lnOk xs t = true := by simpa using h
        rw [hb2 hl]
        have hlt : lnAt xs t < xs.length := by
          unfold lnOk at hl
          simp at hl
          exact hl.1
        refine br_intro (fun _ => ?_) (fun h => by simp at h; omega)
        show _ = _
        simp only [cntOf, hd, hl, Bool.and_self, if_true, Int.toNat_natCast]
        rfl
  · exact h.elim
noncomputable def E6 : Env := E0.of Try.f6
noncomputable def G6 : Gk := gk [(23, g23), (28, g28), (25, g25), (29, g28), (27, g27)]
noncomputable def lp6 (n : Nat) : Code := (loopOf n (codeOf Try.f6)).getD .skip
noncomputable def ct6 (L : Lp) (R : Option Res → Prop) (n : Nat) : Kt := contOf E6 G6 L n (codeOf Try.f6) (endK E6 Try.f6.results.toList R)
noncomputable def rk6 (L : Lp) (R : Option Res → Prop) (n : Nat) (N : St → Prop) : Kt := rk (jof E6 (lp6 n)) N (ct6 L R n)
noncomputable def LOOP6 (L : Lp) (R : Option Res → Prop) (n : Nat) (st : St) : Prop := L (lp6 n) st (ct6 L R n)
theorem hg6 : HG Try.prog G6 := (hg_cons h23 (hg_cons h28 (hg_cons h25 (hg_cons h29 (hg_cons h27 hg_nil)))))
theorem okf6 : Ok Try.prog E6 := ok0.of Try.f6
theorem e6 (L : Lp) (R : Option Res → Prop) (xs : List (Elem k3)) (t : Int) : (bodyP E0 G6 L Try.f6 [.rsl k3 xs, .val (.int .i64 t)] [] R) = (
    br (decide (IntKind.i64.wrap (1048576 - (↑xs.length : Int)) < 0))
      (R (some { av := AV.val (Value.bool true), obs := [], outs := [] }))
      (br (decide (IntKind.i64.wrap (1048576 - (↑xs.length : Int)) < 0))
        (R (some { av := AV.val (Value.bool true), obs := [], outs := [] }))
        (br (decide (xs.length ≤ 1048576))
          (br (decide (xs.length ≤ 1048576))
            (br (decide (-9223372036854775808 ≤ t ∧ t ≤ 9223372036854775807))
              (br (decide (xs.length ≤ 1048576))
                (br (decide (xs.length ≤ 1048576))
                  (br (decide (-9223372036854775808 ≤ t ∧ t ≤ 9223372036854775807))
                    (br (cntOf xs t != cntOf xs t) (R (some { av := AV.val (Value.bool false), obs := [], outs := [] }))
                      (br (decide (xs.length ≤ 1048576))
                        (br (decide (xs.length ≤ 1048576))
                          (br (!eqF xs xs) (R (some { av := AV.val (Value.bool false), obs := [], outs := [] }))
                            (R (some { av := AV.val (Value.bool true), obs := [], outs := [] })))
                          False)
                        False))
                    False)
                  False)
                False)
              False)
            False)
          False))) := by kernel_rfl
theorem brT (t e : Prop) : br true t e = t := rfl
theorem brF (t e : Prop) : br false t e = e := rfl
theorem wf_i64 {t : Int} (h : (Lit.int .i64 t).wf = true) : -9223372036854775808 ≤ t ∧ t ≤ 9223372036854775807 := by
  simpa [Lit.wf, IntKind.min, IntKind.max, IntKind.signed, IntKind.bits] using h
theorem c6 (xs : List (Elem k3)) (t : Int) (hm : xs.length ≤ maxLen) (ht : (Lit.int .i64 t).wf = true) : Ctr Try.prog 6 [.rsl k3 xs, .val (.int .i64 t)] [] ⟨.val (.bool true), [], []⟩ := by
  have hm' : xs.length ≤ 9223372036854775807 := hm
  refine ctr_fn ok0 hg6 Try.func6 (by kernel_rfl) (by kernel_rfl) (by kernel_rfl) fun C => ?_
  rw [e6]
  rw [wrap_id (n := 1048576 - _) (by omega) (by omega)]
  refine br_intro (fun _ => rfl) (fun h => ?_)
  simp at h
  have hd : decide (xs.length ≤ 1048576) = true := by simp; omega
  have hr : decide (-9223372036854775808 ≤ t ∧ t ≤ 9223372036854775807) = true := decide_eq_true (wf_i64 ht)
  have hn : (cntOf xs t != cntOf xs t) = false := by simp
  rw [hd, eqF_self, hr, hn]
  exact br_intro (fun _ => rfl) (fun _ => rfl)
end Go.Proofs.Ytjhjhkphcemcmaa.Ev
