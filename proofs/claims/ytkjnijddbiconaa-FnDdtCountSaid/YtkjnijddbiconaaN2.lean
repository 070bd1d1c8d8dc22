/- The law of FnDdtCount: one more at a place, one fewer at it. -/
import Derived.Test.YtkjnijddbiconaaN1
namespace Go.Proofs.Ytkjnijddbiconaa.Ev
open Go
set_option linter.unusedVariables false
set_option linter.unusedSimpArgs false
set_option maxRecDepth 100000
theorem ddt_intro {d : List (Elem k3)} (hl : d.length ≤ 48) (he : ∀ i, i < d.length → entryOk (at3 d i) = true) (hm : ∀ i, i + 1 < d.length → adD d i < adD d (i + 1)) : ddtOk d = true := by
  unfold ddtOk
  rw [decide_eq_true hl, Bool.true_and, List.all_eq_true]
  intro i hi
  have hi : i < d.length := by simpa using hi
  unfold okAt
  rw [he i hi, Bool.true_and]
  cases i with
  | zero => rfl
  | succ i =>
    have h1 := hm i hi
    have h2 : decide ((at3 d (i + 1 - 1)).2.1 < (at3 d (i + 1)).2.1) = true := decide_eq_true h1
    rw [h2, Bool.or_true]
theorem ddt_e {d : List (Elem k3)} (h : ddtOk d = true) {i : Nat} (hi : i < d.length) : entryOk (at3 d i) = true := by
  have := ddt_at h hi
  unfold okAt at this
  rw [Bool.and_eq_true] at this
  exact this.1
theorem ddt_48 {d : List (Elem k3)} (h : ddtOk d = true) : d.length ≤ 48 := by
  unfold ddtOk at h
  rw [Bool.and_eq_true] at h
  exact of_decide_eq_true h.1
theorem lnD_eq {d : List (Elem k3)} (h : ddtOk d = true) {i : Nat} {t : Int} (hi : i < d.length) (ht : adD d i = t) : lnD d t = i := by
  refine ln_at (fun j hj => decide_eq_true ?_) hi (decide_eq_false ?_)
  · have := ddt_mono h i j hj hi
    show adD d j < t
    omega
  · show ¬ adD d i < t
    omega
theorem okD_of {d : List (Elem k3)} (h : ddtOk d = true) {i : Nat} {t : Int} (hi : i < d.length) (ht : adD d i = t) : okD d t = true := by
  unfold okD
  rw [lnD_eq h hi ht, decide_eq_true hi, Bool.true_and]
  exact beq_iff_eq.2 ht
theorem okD_no {d : List (Elem k3)} {t : Int} (h : ∀ i, i < d.length → adD d i ≠ t) : okD d t = false := by
  cases ho : okD d t with
  | false => rfl
  | true =>
    have hl := okD_lt ho
    unfold okD at ho
    rw [Bool.and_eq_true] at ho
    exact absurd (beq_iff_eq.1 ho.2) (h _ hl)
theorem okD_ad {d : List (Elem k3)} {t : Int} (h : okD d t = true) : adD d (lnD d t) = t := by
  unfold okD at h
  rw [Bool.and_eq_true] at h
  exact beq_iff_eq.1 h.2
theorem dcN_at {d : List (Elem k3)} (h : ddtOk d = true) {i : Nat} {t : Int} (hi : i < d.length) (ht : adD d i = t) : dcN d t = (at3 d i).2.2.1 := by
  unfold dcN
  rw [h, okD_of h hi ht, lnD_eq h hi ht]
  rfl
theorem dcN_no {d : List (Elem k3)} {t : Int} (h : ∀ i, i < d.length → adD d i ≠ t) : dcN d t = 0 := by
  unfold dcN
  rw [okD_no h, Bool.and_false]
theorem at3_ne {d : List (Elem k3)} {k i : Nat} (h : k ≠ i) (e : Elem k3) : at3 (d.set k e) i = at3 d i := by
  unfold at3
  rw [List.getD_eq_getElem?_getD, List.getD_eq_getElem?_getD, List.getElem?_set_ne h]
theorem at3_eq {d : List (Elem k3)} {k : Nat} (h : k < d.length) (e : Elem k3) : at3 (d.set k e) k = e := at_set h e
theorem at3_ins (d : List (Elem k3)) (k : Nat) (hk : k ≤ d.length) (e : Elem k3) (i : Nat) : at3 (d.take k ++ [e] ++ d.drop k) i = if i < k then at3 d i else if i = k then e else at3 d (i - 1) := by
  have l1 : (d.take k).length = k := by rw [List.length_take]; omega
  unfold at3
  rw [List.getD_eq_getElem?_getD, List.append_assoc]
  by_cases h1 : i < k
  · rw [if_pos h1, List.getElem?_append_left (by omega), List.getElem?_take, if_pos h1, List.getD_eq_getElem?_getD]
  · rw [if_neg h1, List.getElem?_append_right (by omega), l1]
    by_cases h2 : i = k
    · rw [if_pos h2, h2, Nat.sub_self]
      rfl
    · rw [if_neg h2, show i - k = (i - 1 - k) + 1 by omega, List.cons_append, List.getElem?_cons_succ, List.nil_append, List.getElem?_drop, List.getD_eq_getElem?_getD, show k + (i - 1 - k) = i - 1 by omega]
theorem ins_len (d : List (Elem k3)) (k : Nat) (hk : k ≤ d.length) (e : Elem k3) : (d.take k ++ [e] ++ d.drop k).length = d.length + 1 := by
  rw [List.length_append, List.length_append, List.length_take, List.length_drop]
  show min k d.length + 1 + (d.length - k) = _
  omega
/-- What one more at a place does. -/
structure Add1 (d x : List (Elem k3)) (t : Int) : Prop where
  ok : ddtOk x = true
  cnt : ∀ a, dcN x a = dcN d a + (if a = t then 1 else 0)
  back : ddR x t = (d, true)
theorem add_set {d : List (Elem k3)} (h : ddtOk d = true) {k : Nat} {t : Int} (hk : k < d.length) (ht : adD d k = t) (hc : (at3 d k).2.2.1 ≠ 1000) : Add1 d (d.set k (incE (at3 d k))) t := by
  have hc1 : (1 : Int) ≤ ((at3 d k).2.2.1 : Int) := (ddt_ent h hk).2.2.1
  have hc2 : (1000 : Int) ≥ (at3 d k).2.2.1 := (ddt_ent h hk).2.2.2.1
  have hc3 : (999 : Int) ≥ (at3 d k).2.2.1 := by
    by_cases e : (1000 : Int) = (at3 d k).2.2.1
    · exact absurd e.symm hc
    · omega
  have hw : IntKind.i64.wrap ((at3 d k).2.2.1 + 1) = (at3 d k).2.2.1 + 1 := wrap_id (by omega) (by omega)
  have hin : incE (at3 d k) = ((at3 d k).1, (at3 d k).2.1, (at3 d k).2.2.1 + 1, ()) := by unfold incE; rw [hw]
  have hA : ∀ i, adD (d.set k (incE (at3 d k))) i = adD d i := by
    intro i
    unfold adD
    by_cases e : k = i
    · subst e
      rw [at3_eq hk]
      rfl
    · rw [at3_ne e]
  have hl : (d.set k (incE (at3 d k))).length = d.length := List.length_set
  have hok : ddtOk (d.set k (incE (at3 d k))) = true := by
    refine ddt_intro (by rw [hl]; exact ddt_48 h) (fun i hi => ?_) (fun i hi => ?_)
    · rw [hl] at hi
      by_cases e : k = i
      · subst e
        rw [at3_eq hk, hin]
        have h1 := ddt_e h hk
        simp only [entryOk, within, Bool.and_eq_true, decide_eq_true_eq] at h1 ⊢
        refine ⟨h1.1, ?_, ?_⟩
        · show (1 : Int) ≤ ((at3 d k).2.2.1 : Int) + 1
          omega
        · have h9 : (1000 : Int) ≥ (1 : Int) + (at3 d k).2.2.1 := by omega
          rw [Int.add_comm] at h9
          exact h9
      · rw [at3_ne e]
        exact ddt_e h hi
    · rw [hl] at hi
      rw [hA, hA]
      exact ddt_step h hi
  have hat : okD (d.set k (incE (at3 d k))) t = true := okD_of hok (by rw [hl]; exact hk) (by rw [hA]; exact ht)
  have hln : lnD (d.set k (incE (at3 d k))) t = k := lnD_eq hok (by rw [hl]; exact hk) (by rw [hA]; exact ht)
  refine ⟨hok, fun a => ?_, ?_⟩
  · by_cases hex : ∃ i, i < d.length ∧ adD d i = a
    · obtain ⟨i, hi, ha⟩ := hex
      rw [dcN_at h hi ha, dcN_at hok (i := i) (by rw [hl]; exact hi) (by rw [hA]; exact ha)]
      by_cases e : k = i
      · subst e
        rw [at3_eq hk, hin, if_pos (by omega)]
      · rw [at3_ne e, if_neg (fun e2 => ?_), Int.add_zero]
        by_cases hlt : k < i
        · have := ddt_mono h i k hlt hi
          omega
        · have := ddt_mono h k i (by omega) hk
          omega
    · have hno : ∀ i, i < d.length → adD d i ≠ a := fun i hi ha => hex ⟨i, hi, ha⟩
      rw [dcN_no hno, dcN_no (fun i hi => by rw [hA]; rw [hl] at hi; exact hno i hi), if_neg (fun e => hno k hk (by omega))]
      rfl
  · unfold ddR
    rw [hok, hat, hln]
    have hd : dropK (d.set k (incE (at3 d k))) k = d := by
      unfold dropK
      rw [at3_eq hk, hin]
      have h2 : IntKind.i64.wrap ((at3 d k).2.2.1 + 1 - 1) = (at3 d k).2.2.1 := by rw [Int.add_sub_cancel]; exact wrap_id (by omega) (by omega)
      have h3 : (IntKind.i64.wrap ((at3 d k).2.2.1 + 1 - 1) == 0) = false := by
        rw [h2]
        refine beq_eq_false_iff_ne.2 (fun e => ?_)
        have e : (0 : Int) = (at3 d k).2.2.1 := e.symm
        omega
      have h3' : (IntKind.i64.wrap ((((at3 d k).1, (at3 d k).2.1, (at3 d k).2.2.1 + 1, ()) : Elem k3).2.2.1 - 1) == 0) = false := h3
      rw [h3', List.set_set]
      have h4 : decE ((at3 d k).1, (at3 d k).2.1, (at3 d k).2.2.1 + 1, ()) = at3 d k := by
        show ((at3 d k).1, (at3 d k).2.1, IntKind.i64.wrap ((at3 d k).2.2.1 + 1 - 1), ()) = at3 d k
        rw [h2]
      show d.set k (decE ((at3 d k).1, (at3 d k).2.1, (at3 d k).2.2.1 + 1, ())) = d
      rw [h4]
      apply List.ext_getElem?
      intro j
      by_cases e : k = j
      · subst e
        rw [List.getElem?_set_self hk, List.getElem?_eq_getElem hk]
        unfold at3
        rw [List.getD_eq_getElem?_getD, List.getElem?_eq_getElem hk]
        rfl
      · rw [List.getElem?_set_ne e]
    rw [hd]
theorem add_ins {d : List (Elem k3)} (h : ddtOk d = true) {s t : Int} (hn : okD d t = false) (he : entryOk (s, t, 1, ()) = true) (hl : d.length ≠ 48) : Add1 d (d.take (lnD d t) ++ [(s, t, 1, ())] ++ d.drop (lnD d t)) t := by
  have hk := lnD_le d t
  have h48 := ddt_48 h
  have hno : ∀ i, i < d.length → adD d i ≠ t := fun i hi ha => by rw [okD_of h hi ha] at hn; cases hn
  have hbel : ∀ i, i < lnD d t → adD d i < t := fun i hi => of_decide_eq_true (ln_below (p := fun i => decide ((at3 d i).2.1 < t)) hi)
  have habv : ∀ i, lnD d t ≤ i → i < d.length → t < adD d i := by
    intro i h1 h2
    have h3 : ¬ adD d (lnD d t) < t := of_decide_eq_false (ln_fails (p := fun i => decide ((at3 d i).2.1 < t)) (show lnD d t < d.length by omega))
    have h4 := hno (lnD d t) (by omega)
    by_cases e : lnD d t = i
    · rw [← e]
      omega
    · have := ddt_mono h i (lnD d t) (by omega) h2
      omega
  generalize lnD d t = k at *
  have hx := at3_ins d k hk (s, t, 1, ())
  have hxl := ins_len d k hk (s, t, 1, ())
  generalize hX : d.take k ++ [(s, t, 1, ())] ++ d.drop k = x at *
  have a1 : ∀ i, i < k → adD x i = adD d i := fun i hi => by unfold adD; rw [hx, if_pos hi]
  have a2 : adD x k = t := by unfold adD; rw [hx, if_neg (by omega), if_pos rfl]
  have a3 : ∀ i, k < i → adD x i = adD d (i - 1) := fun i hi => by unfold adD; rw [hx, if_neg (by omega), if_neg (by omega)]
  have hok : ddtOk x = true := by
    refine ddt_intro (by omega) (fun i hi => ?_) (fun i hi => ?_)
    · rw [hx]
      split
      · exact ddt_e h (by omega)
      · split
        · exact he
        · exact ddt_e h (by omega)
    · by_cases e1 : i + 1 < k
      · rw [a1 i (by omega), a1 (i + 1) e1]
        exact ddt_step h (by omega)
      · by_cases e2 : i + 1 = k
        · rw [a1 i (by omega), e2, a2]
          exact hbel i (by omega)
        · by_cases e3 : i = k
          · rw [e3, a2, a3 (k + 1) (by omega)]
            exact habv _ (by omega) (by omega)
          · rw [a3 i (by omega), a3 (i + 1) (by omega), show i + 1 - 1 = i - 1 + 1 by omega]
            exact ddt_step h (by omega)
  have hat : okD x t = true := okD_of hok (show k < x.length by omega) a2
  have hln : lnD x t = k := lnD_eq hok (show k < x.length by omega) a2
  refine ⟨hok, fun a => ?_, ?_⟩
  · by_cases e : a = t
    · subst e
      rw [if_pos rfl, dcN_no hno, dcN_at hok (show k < x.length by omega) a2, hx, if_neg (by omega), if_pos rfl]
      rfl
    · rw [if_neg e, Int.add_zero]
      by_cases hex : ∃ i, i < d.length ∧ adD d i = a
      · obtain ⟨i, hi, ha⟩ := hex
        rw [dcN_at h hi ha]
        by_cases hlt : i < k
        · rw [dcN_at hok (i := i) (by omega) (by rw [a1 i hlt]; exact ha), hx, if_pos hlt]
        · rw [dcN_at hok (i := i + 1) (by omega) (by rw [a3 (i + 1) (by omega)]; exact ha), hx, if_neg (by omega), if_neg (by omega)]
          rfl
      · have hno' : ∀ i, i < d.length → adD d i ≠ a := fun i hi ha => hex ⟨i, hi, ha⟩
        rw [dcN_no hno', dcN_no (fun i hi ha => ?_)]
        by_cases e1 : i < k
        · exact hno' i (by omega) (by rw [← a1 i e1]; exact ha)
        · by_cases e2 : i = k
          · rw [e2, a2] at ha
            omega
          · exact hno' (i - 1) (by omega) (by rw [← a3 i (by omega)]; exact ha)
  · unfold ddR
    rw [hok, hat, hln]
    have hd : dropK x k = d := by
      unfold dropK
      have h3 : (IntKind.i64.wrap ((at3 x k).2.2.1 - 1) == 0) = true := by
        rw [hx, if_neg (by omega), if_pos rfl]
        show (IntKind.i64.wrap (1 - 1) == 0) = true
        decide
      rw [h3, ← hX]
      have l1 : (d.take k).length = k := by rw [List.length_take]; omega
      show (d.take k ++ [(s, t, 1, ())] ++ d.drop k).take k ++ (d.take k ++ [(s, t, 1, ())] ++ d.drop k).drop (k + 1) = d
      have l2 : (d.take k ++ [((s, t, 1, ()) : Elem k3)]).length = k + 1 := by rw [List.length_append, l1]; rfl
      rw [List.drop_left' l2, List.append_assoc, List.take_left' l1, List.take_append_drop]
    rw [hd]
theorem daR_ok {d : List (Elem k3)} (h : ddtOk d = true) {s t : Int} (ht : (daR d s t).2 = true) : (1 ≤ t ∧ t ≤ 119) ∧ Add1 d (daR d s t).1 t := by
  unfold daR at ht ⊢
  rw [h] at ht ⊢
  cases he : entryOk (s, t, 1, ()) with
  | false => rw [he] at ht; cases ht
  | true =>
    rw [he] at ht
    have h1 : 1 ≤ t ∧ t ≤ 119 := by
      simp only [entryOk, within, Bool.and_eq_true, decide_eq_true_eq] at he
      exact ⟨he.1.2.1, he.1.2.2⟩
    refine ⟨h1, ?_⟩
    cases ho : okD d t with
    | true =>
      rw [ho] at ht
      cases hc : (at3 d (lnD d t)).1 != s || (at3 d (lnD d t)).2.2.1 == 1000 with
      | true =>
        have ht : (match (at3 d (lnD d t)).1 != s || (at3 d (lnD d t)).2.2.1 == 1000 with
          | true => (d, false)
          | false => (d.set (lnD d t) (incE (at3 d (lnD d t))), true)).2 = true := ht
        rw [hc] at ht
        cases ht
      | false =>
        rw [Bool.or_eq_false_iff] at hc
        exact add_set h (okD_lt ho) (okD_ad ho) (fun e => by rw [e] at hc; exact absurd hc.2 (by decide))
    | false =>
      rw [ho] at ht
      cases hc : (d.length : Int) == 48 with
      | true =>
        have ht : (match (d.length : Int) == 48 with
          | true => (d, false)
          | false => (d.take (lnD d t) ++ [(s, t, 1, ())] ++ d.drop (lnD d t), true)).2 = true := ht
        rw [hc] at ht
        cases ht
      | false => exact add_ins h ho he (fun e => by rw [e] at hc; cases hc)
end Go.Proofs.Ytkjnijddbiconaa.Ev
