/- The law of FnDdtCount. -/
import Derived.Test.YtkjnijddbiconaaN2
namespace Go.Proofs.Ytkjnijddbiconaa.Ev
open Go
set_option linter.unusedVariables false
set_option linter.unusedSimpArgs false
set_option maxRecDepth 100000
theorem okB_of {b : List (Elem ku)} (h : ∀ e ∈ b, elemOk ku e) : okB b = true := by
  unfold okB
  rw [List.all_eq_true]
  intro e he
  have h1 : (decide (IntKind.u8.min ≤ (e.1 : Int)) && decide ((e.1 : Int) ≤ IntKind.u8.max)) = true := (h e he).1
  simp only [Bool.and_eq_true, decide_eq_true_eq] at h1
  have e0 : IntKind.u8.min = 0 := rfl
  have e1 : IntKind.u8.max = 255 := rfl
  have this : 0 ≤ (e.1 : Int) ∧ (e.1 : Int) ≤ 255 := by
    rw [e0, e1] at h1
    exact h1
  exact decide_eq_true this
theorem bnot_self (q : Bool) : (!q == q) = false := by cases q <;> rfl
theorem daR_48 (xs : List (Elem k3)) (s t : Int) : (daR xs s t).1.length ≤ 49 := by
  cases hd : ddtOk xs with
  | false =>
    unfold daR
    rw [hd]
    exact Nat.zero_le _
  | true =>
    have := daR_len xs s t
    have := ddt_48 hd
    omega
theorem dcI_eq {xs : List (Elem k3)} (h : ddtOk xs = true) {t : Int} (h0 : -9223372036854775808 ≤ t) (h1 : t ≤ 9223372036854775807) : dcI xs t = dcN xs t := by
  obtain ⟨a1, a2⟩ := bk_all h h0 h1
  unfold dcI dcN
  rw [h, a1]
  cases ho : okD xs t with
  | false => rfl
  | true => rw [a2 ho]; rfl
theorem dcN_lt {d : List (Elem k3)} (h : ddtOk d = true) (a : Int) : 0 ≤ dcN d a ∧ dcN d a ≤ 1000 := by
  unfold dcN
  rw [h]
  cases ho : okD d a with
  | false => exact ⟨by show (0 : Int) ≤ 0; omega, by show (0 : Int) ≤ 1000; omega⟩
  | true =>
    have he := ddt_ent h (okD_lt ho)
    have h1 : (1 : Int) ≤ (at3 d (lnD d a)).2.2.1 := he.2.2.1
    have h2 : (1000 : Int) ≥ (at3 d (lnD d a)).2.2.1 := he.2.2.2.1
    exact ⟨by show (0 : Int) ≤ (at3 d (lnD d a)).2.2.1; omega, h2⟩
theorem c5 (c : List (Elem ku)) (hB : okB c = true) (hm : c.length ≤ maxLen) : Ctr Try.prog 5 [.rsl ku c] [] ⟨.val (.bool true), [], []⟩ := by
  refine ctr_fn okf hg5 Try.func5 (by kernel_rfl) (by kernel_rfl) (by kernel_rfl) fun C => ?_
  have hl := drL_len (opB_ok hB)
  rw [e5, daJ_eq]
  generalize drL (opB c) = d at *
  generalize drS (opB c) = s at *
  generalize drA (opB c) = t at *
  have hx := daR_48 d s t
  have hd : decide (d.length ≤ 1048576) = true := decide_eq_true (by omega)
  refine br_dec (fun _ => rfl) (fun h1 => ?_)
  refine br_t (by rw [hB, decide_eq_true (show c.length ≤ 1048576 by omega)]; rfl) (br_t hd (br_t hd (br_f (bnot_self _) (br_yes (by omega) (br_f (by rw [eqP_self]; rfl) (br_t hd (br_t hd (br_f (bnot_self _) (br_t hd (br_not (fun h2 => ?_) (fun h2 => br_not (fun h3 => br_yes (by omega) ?_) (fun h3 => br_yes (by omega) ?_))))))))))))
  · show _ = _
    have : (daR d s t).1 = [] := by unfold daR; rw [h2]
    rw [this]
    rfl
  · show _ = _
    have : (daR d s t).1 = d := by
      unfold daR at h3 ⊢
      rw [h2] at h3 ⊢
      revert h3
      cases entryOk (s, t, 1, ()) with
      | false => exact fun _ => rfl
      | true =>
        cases okD d t with
        | true =>
          show (match (at3 d (lnD d t)).1 != s || (at3 d (lnD d t)).2.2.1 == 1000 with
            | true => (d, false)
            | false => (d.set (lnD d t) (incE (at3 d (lnD d t))), true)).2 = false → (match (at3 d (lnD d t)).1 != s || (at3 d (lnD d t)).2.2.1 == 1000 with
            | true => (d, false)
            | false => (d.set (lnD d t) (incE (at3 d (lnD d t))), true)).1 = d
          cases (at3 d (lnD d t)).1 != s || (at3 d (lnD d t)).2.2.1 == 1000 with
          | true => exact fun _ => rfl
          | false => exact fun h => by cases h
        | false =>
          show (match (d.length : Int) == 48 with
            | true => (d, false)
            | false => (d.take (lnD d t) ++ [(s, t, 1, ())] ++ d.drop (lnD d t), true)).2 = false → (match (d.length : Int) == 48 with
            | true => (d, false)
            | false => (d.take (lnD d t) ++ [(s, t, 1, ())] ++ d.drop (lnD d t), true)).1 = d
          cases (d.length : Int) == 48 with
          | true => exact fun _ => rfl
          | false => exact fun h => by cases h
    rw [this, eqP_self]
  · obtain ⟨⟨t0, t1⟩, ad⟩ := daR_ok h2 h3
    rw [ddJ_eq _ (by omega) (by omega), ad.back]
    generalize hX : (daR d s t).1 = x at *
    have hxx : decide (x.length ≤ 1048576) = true := decide_eq_true (by omega)
    show LoopOk _ _ _ (st5 d x d t true ((0 : Nat) : Int)) _
    refine loopSeq okf5 hg5 (fun j => st5 d x d t true (j : Int)) 13 (fun N j hj next => ?_) (fun N => ?_)
    · show evP E5 G5 _ (lp5 14) (st5 d x d t true (j : Int)) (rk5 _ _ 14 _)
      have k1 := dcN_lt h2 (j : Int)
      have hw : IntKind.i64.wrap (dcI x (j : Int) - dcI d (j : Int)) = if (j : Int) = t then 1 else 0 := by
        rw [dcI_eq h2 (by omega) (by omega), dcI_eq ad.ok (by omega) (by omega), ad.cnt]
        split
        · rw [wrap_id (by omega) (by omega)]
          omega
        · rw [wrap_id (by omega) (by omega)]
          omega
      rw [b5, hw, wrap_id (n := (j : Int) + 1) (by omega) (by omega)]
      have next' := next
      refine br_yes (by omega) (br_t hxx (br_t hd ?_))
      by_cases e : (j : Int) = t
      · rw [if_pos e]
        refine br_f (by rw [e]; simp) (br_t (by rw [e]; simp) (br_f rfl next'))
      · rw [if_neg e]
        refine br_t (by simpa using e) (br_f rfl (br_f (by simpa using e) next'))
    · show evP E5 G5 _ (lp5 14) (st5 d x d t true (13 : Int)) (rk5 _ _ 14 _)
      rw [b5]
      refine br_no (by omega) (br_t hxx (br_t ad.ok (br_t rfl (br_t hd (br_t (eqP_self d) (br_t hxx (br_t hd ?_)))))))
      show _ = _
      have k1 := dcN_lt h2 t
      have : (dcI x t == IntKind.i64.wrap (dcI d t + 1)) = true := by
        rw [dcI_eq h2 (by omega) (by omega), dcI_eq ad.ok (by omega) (by omega), ad.cnt, if_pos rfl, wrap_id (by omega) (by omega)]
        exact beq_self_eq_true _
      rw [this]
end Go.Proofs.Ytkjnijddbiconaa.Ev
