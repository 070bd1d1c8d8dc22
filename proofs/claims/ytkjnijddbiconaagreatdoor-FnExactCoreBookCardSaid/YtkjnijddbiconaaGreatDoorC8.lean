/- Both ways of counting say the same. -/
import Derived.Test.YtkjnijddbiconaaGreatDoorC7
namespace Go.Proofs.YtkjnijddbiconaaGreatDoor.Ev
open Go
set_option linter.unusedVariables false
set_option linter.unusedSimpArgs false
set_option maxRecDepth 100000
set_option maxHeartbeats 1000000
theorem ddt_mono {d : List (Elem k3)} (h : ddtOk d = true) : ∀ (j i : Nat), i < j → j < d.length → adD d i < adD d j
  | 0, i, hi, _ => absurd hi (by omega)
  | j + 1, i, hi, hj => by
    have h2 := ddt_step h hj
    by_cases e : i = j
    · rw [e]; exact h2
    · have := ddt_mono h j i (by omega) (by omega)
      omega
theorem bs_lnD {d : List (Elem k3)} (h : ddtOk d = true) {t : Int} (h0 : 0 ≤ t) (h1 : t ≤ 1000000) : bsD d t = lnD d t := by
  have hc : ∀ i, i < d.length → decide (IntKind.i64.wrap ((atP d i).2.1 - t) < 0) = decide ((atP d i).2.1 < t) := by
    intro i hi
    have he := (ddt_ent h hi).1
    have hw : IntKind.i64.wrap (adD d i - t) = adD d i - t := wrap_id (by omega) (by omega)
    show decide (IntKind.i64.wrap (adD d i - t) < 0) = decide (adD d i < t)
    rw [hw]
    apply decide_eq_decide.2
    omega
  unfold bsD lnD
  rw [bsf_ln fun a b hab hb hp => ?_]
  · exact ln_congr hc
  · rw [hc b hb] at hp
    rw [hc a (by omega)]
    by_cases e : a = b
    · subst e; exact hp
    · have := ddt_mono h b a (by omega) hb
      have hp : adD d b < t := of_decide_eq_true hp
      exact decide_eq_true (show adD d a < t by omega)
theorem bk_okD {d : List (Elem k3)} (h : ddtOk d = true) {t : Int} (h0 : 0 ≤ t) (h1 : t ≤ 1000000) : bkD d t = okD d t := by
  unfold bkD okD
  rw [bs_lnD h h0 h1]
  by_cases hk : lnD d t < d.length
  · have he := (ddt_ent h hk).1
    have hw : IntKind.i64.wrap (adD d (lnD d t) - t) = adD d (lnD d t) - t := wrap_id (by omega) (by omega)
    show (decide (lnD d t < d.length) && (IntKind.i64.wrap (adD d (lnD d t) - t) == 0)) = (decide (lnD d t < d.length) && (adD d (lnD d t) == t))
    rw [hw, Bool.eq_iff_iff]
    simp only [Bool.and_eq_true, beq_iff_eq, decide_eq_true_eq]
    omega
  · rw [decide_eq_false hk]
    rfl
def adP (p : Elem k3) : Int := p.1
theorem pOk_rng {p : Elem k3} (h : pOk p = true) : 0 ≤ adP p ∧ adP p ≤ 120 := (ptr_range h).1
theorem pr_sum {d : List (Elem k3)} (h : ddtOk d = true) {p : Elem k3} (hp : pOk p = true) : prI d p = sumK d p := by
  have hr := pOk_rng hp
  cases h0 : p.1 == 0 with
  | true =>
    rw [prI_0 h0, sumK_3]
    have : adP p = 0 := by have := eq_of_beq h0; exact this
    exact decide_eq_false (show ¬ adP p > 0 by omega)
  | false =>
    have hn : adP p ≠ 0 := beq_eq_false_iff_ne.1 h0
    have hg : decide (p.1 > 0) = true := decide_eq_true (show adP p > 0 by omega)
    have hb : bkD d p.1 = okD d p.1 := bk_okD (t := adP p) h hr.1 (by omega)
    have hb2 : bsD d p.1 = lnD d p.1 := bs_lnD (t := adP p) h hr.1 (by omega)
    cases hk : okD d p.1 with
    | false => rw [prI_1 h0 (hb.trans hk), sumK_1 hg hk]
    | true => rw [prI_2 h0 (hb.trans hk), sumK_2 hg hk, hb2]
theorem okD_at {d : List (Elem k3)} {t : Int} (h : okD d t = true) : adD d (lnD d t) = t := by
  unfold okD at h
  rw [Bool.and_eq_true, beq_iff_eq] at h
  exact h.2
theorem lnD_uniq {d : List (Elem k3)} (h : ddtOk d = true) {k : Nat} (hk : k < d.length) : lnD d (adD d k) = k := by
  unfold lnD
  refine ln_at (fun j hj => ?_) hk ?_
  · exact decide_eq_true (ddt_mono h k j hj hk)
  · exact decide_eq_false (show ¬ adD d k < adD d k by omega)
/-- A pointer that is found points at one entry. -/
theorem one_k {d : List (Elem k3)} (h : ddtOk d = true) {p : Elem k3} (hp : pOk p = true) (hs : sumK d p = true) {k : Nat} (hk : k < d.length) :
    (p.1 != 0 && (bsD d p.1 == k)) = (p.1 == adD d k && decide (adD d k > 0)) := by
  have hr := pOk_rng hp
  have he := (ddt_ent h hk).1
  rw [decide_eq_true (show adD d k > 0 by omega), Bool.and_true]
  cases h0 : p.1 == 0 with
  | true =>
    have e0 : adP p = 0 := eq_of_beq h0
    have : (p.1 == adD d k) = false := beq_eq_false_iff_ne.2 (show adP p ≠ adD d k by omega)
    rw [this]
    unfold bne
    rw [h0]
    rfl
  | false =>
    have hn : adP p ≠ 0 := beq_eq_false_iff_ne.1 h0
    have hg : decide (p.1 > 0) = true := decide_eq_true (show adP p > 0 by omega)
    have ho : okD d p.1 = true := by
      cases hk : okD d p.1 with
      | true => rfl
      | false => rw [sumK_1 hg hk] at hs; cases hs
    have hb : bsD d p.1 = lnD d p.1 := bs_lnD (t := adP p) h hr.1 (by omega)
    unfold bne
    rw [h0, hb, Bool.not_false, Bool.true_and, Bool.eq_iff_iff, beq_iff_eq, beq_iff_eq]
    constructor
    · intro e
      have := okD_at ho
      rw [e] at this
      exact this.symm
    · intro e
      rw [show p.1 = adD d k from e]
      exact lnD_uniq h hk
theorem countP_cong {α : Type} {f g : α → Bool} : ∀ {l : List α}, (∀ a ∈ l, f a = g a) → l.countP f = l.countP g
  | [], _ => rfl
  | a :: l, h => by
    rw [List.countP_cons, List.countP_cons, h a (by simp), countP_cong fun b hb => h b (by simp [hb])]
theorem all_cong {α : Type} {f g : α → Bool} : ∀ {l : List α}, (∀ a ∈ l, f a = g a) → l.all f = l.all g
  | [], _ => rfl
  | a :: l, h => by
    rw [List.all_cons, List.all_cons, h a (by simp), all_cong fun b hb => h b (by simp [hb])]
theorem cn_ref {d ps : List (Elem k3)} (h : ddtOk d = true) (hp : ∀ p ∈ ps, pOk p = true) (hs : ps.all (sumK d) = true) {k : Nat} (hk : k < d.length) : cnI d ps k = refP ps (adD d k) := by
  unfold cnI refP
  rw [List.all_eq_true] at hs
  exact countP_cong fun p hpm => one_k h (hp p hpm) (hs p hpm) hk
def sumN' (n : Nat) (f : Nat → Int) : Int := ((List.range n).map f).sum
theorem sumN_succ (n : Nat) (f : Nat → Int) : sumN' (n + 1) f = sumN' n f + f n := by
  unfold sumN'
  rw [List.range_succ, List.map_append, List.sum_append]
  simp
theorem sumN_congr {n : Nat} {f g : Nat → Int} (h : ∀ k, k < n → f k = g k) : sumN' n f = sumN' n g := by
  unfold sumN'
  rw [List.map_congr_left fun k hk => h k (by simpa using hk)]
theorem sumN_add (f g : Nat → Int) : ∀ n, sumN' n (fun k => f k + g k) = sumN' n f + sumN' n g
  | 0 => rfl
  | n + 1 => by
    rw [sumN_succ, sumN_succ, sumN_succ, sumN_add f g n]
    omega
theorem sumN_zero : ∀ n, sumN' n (fun _ => 0) = 0
  | 0 => rfl
  | n + 1 => by rw [sumN_succ, sumN_zero n]; rfl
theorem sumN_ind (k0 : Nat) : ∀ n, sumN' n (fun k => if k = k0 then 1 else 0) = if k0 < n then 1 else 0
  | 0 => rfl
  | n + 1 => by
    rw [sumN_succ, sumN_ind k0 n]
    by_cases h1 : n = k0
    · rw [if_pos h1, if_neg (by omega), if_pos (by omega)]
      rfl
    · rw [if_neg h1]
      by_cases h2 : k0 < n
      · rw [if_pos h2, if_pos (by omega)]
        rfl
      · rw [if_neg h2, if_neg (by omega)]
        rfl
theorem allC_sum : ∀ (d : List (Elem k3)), allC d = sumN' d.length (cnD d) := by
  intro d
  unfold allC sumN'
  congr 1
  refine List.ext_getElem (by simp) fun k h1 h2 => ?_
  rw [List.getElem_map, List.getElem_map, List.getElem_range]
  unfold cnD atP
  rw [List.getD_eq_getElem?_getD, List.getElem?_eq_getElem (by simpa using h1)]
  rfl
theorem ref_all {d : List (Elem k3)} (h : ddtOk d = true) : ∀ (ps : List (Elem k3)), (∀ p ∈ ps, pOk p = true) → ps.all (sumK d) = true → sumN' d.length (fun k => (refP ps (adD d k) : Int)) = liveP ps
  | [], _, _ => by
    show sumN' d.length (fun _ => 0) = 0
    exact sumN_zero _
  | p :: ps, hp, hs => by
    rw [List.all_cons, Bool.and_eq_true] at hs
    have ih := ref_all h ps (fun q hq => hp q (by simp [hq])) hs.2
    have hpp := hp p (by simp)
    have hr := pOk_rng hpp
    have e1 : ∀ k, (refP (p :: ps) (adD d k) : Int) = (refP ps (adD d k) : Int) + if (p.1 == adD d k && decide (adD d k > 0)) = true then 1 else 0 := by
      intro k
      unfold refP
      rw [List.countP_cons]
      split <;> simp
    have e2 : (liveP (p :: ps) : Int) = (liveP ps : Int) + if decide (p.1 > 0) = true then 1 else 0 := by
      unfold liveP
      rw [List.countP_cons]
      split <;> simp
    rw [sumN_congr fun k hk => e1 k, sumN_add, ih, e2]
    congr 1
    by_cases hg : adP p > 0
    · have hg' : decide (p.1 > 0) = true := decide_eq_true hg
      have ho : okD d p.1 = true := by
        cases hk : okD d p.1 with
        | true => rfl
        | false => rw [sumK_1 hg' hk] at hs; cases hs.1
      have e3 : sumN' d.length (fun k => if (p.1 == adD d k && decide (adD d k > 0)) = true then 1 else 0) = sumN' d.length (fun k => if k = lnD d p.1 then 1 else 0) := by
        refine sumN_congr fun k hk => ?_
        have he := (ddt_ent h hk).1
        rw [decide_eq_true (show adD d k > 0 by omega), Bool.and_true]
        by_cases e : k = lnD d p.1
        · rw [if_pos e, if_pos]
          rw [beq_iff_eq, e]
          exact (okD_at ho).symm
        · rw [if_neg e, if_neg]
          rw [beq_iff_eq]
          intro e'
          exact e (by rw [show p.1 = adD d k from e']; exact (lnD_uniq h hk).symm)
      rw [e3, sumN_ind, if_pos (okD_lt ho), if_pos hg']
    · have hg' : decide (p.1 > 0) = false := decide_eq_false hg
      have e3 : sumN' d.length (fun k => if (p.1 == adD d k && decide (adD d k > 0)) = true then 1 else 0) = sumN' d.length (fun _ => 0) := by
        refine sumN_congr fun k hk => ?_
        have he := (ddt_ent h hk).1
        rw [show (p.1 == adD d k) = false from beq_eq_false_iff_ne.2 (show adP p ≠ adD d k by omega)]
        rfl
      rw [e3, sumN_zero, hg']
      rfl
theorem beq_symm (a b : Int) : (a == b) = (b == a) := by
  rw [Bool.eq_iff_iff, beq_iff_eq, beq_iff_eq]
  exact ⟨Eq.symm, Eq.symm⟩
/-- Both ways of counting say the same. -/
theorem cnt_eqv {d : List (Elem k3)} {s : List (Elem kc)} (h : ddtOk d = true) (hp : ∀ p ∈ ptsOf s, pOk p = true) : cntI d s = (cntS d s && (ptsOf s).all (sumK d)) := by
  have e1 : (ptsOf s).all (prI d) = (ptsOf s).all (sumK d) := all_cong fun p hpm => pr_sum h (hp p hpm)
  unfold cntI
  rw [e1]
  cases hs : (ptsOf s).all (sumK d) with
  | false => rw [Bool.and_false]; rfl
  | true =>
    rw [Bool.true_and, Bool.and_true]
    have e2 : (allB d.length fun k => (atP d k).2.2.1 == (cnI d (ptsOf s) k : Int)) = allB d.length (cntK d s) := by
      refine allB_congr fun k hk => ?_
      unfold cntK
      rw [cn_ref h hp hs hk]
      exact beq_symm _ _
    rw [e2]
    unfold cntS
    cases hc : allB d.length (cntK d s) with
    | false => rfl
    | true =>
      rw [Bool.true_and]
      have e3 : allC d = liveP (ptsOf s) := by
        rw [allC_sum, ← ref_all h (ptsOf s) hp hs]
        refine sumN_congr fun k hk => ?_
        have := allB_at hc hk
        unfold cntK at this
        exact (eq_of_beq this).symm
      rw [e3]
      simp
end Go.Proofs.YtkjnijddbiconaaGreatDoor.Ev
