/- The law of FnDdtParts. -/
import Derived.Test.YtkjnijddbiconaaDoorP2
import Derived.Test.YtkjnijddbiconaaDoorEvC
namespace Go.Proofs.YtkjnijddbiconaaDoor.Ev
open Go
set_option linter.unusedVariables false
set_option linter.unusedSimpArgs false
set_option maxRecDepth 100000
theorem okAt_take {L : List (Elem k3)} {k i : Nat} (hi : i < k) (h : okAt L i = true) : okAt (L.take k) i = true := by
  have e : ∀ j, j < k → at3 (L.take k) j = at3 L j := fun j hj => by
    unfold at3
    rw [List.getD_eq_getElem?_getD, List.getD_eq_getElem?_getD, List.getElem?_take, if_pos hj]
  unfold okAt at h ⊢
  rw [e i hi, e (i - 1) (by omega)]
  exact h
theorem okAt_drop {L : List (Elem k3)} {k i : Nat} (h : okAt L (k + i) = true) : okAt (L.drop k) i = true := by
  have e : ∀ j, at3 (L.drop k) j = at3 L (k + j) := fun j => by
    unfold at3
    rw [List.getD_eq_getElem?_getD, List.getD_eq_getElem?_getD, List.getElem?_drop]
  unfold okAt at h ⊢
  rw [Bool.and_eq_true, Bool.or_eq_true] at h ⊢
  rw [e i]
  refine ⟨h.1, ?_⟩
  by_cases h0 : i = 0
  · exact .inl (by rw [h0]; rfl)
  · right
    rw [e (i - 1), show k + (i - 1) = k + i - 1 by omega]
    rcases h.2 with h2 | h2
    · exact absurd (eq_of_beq h2) (by omega)
    · exact h2
theorem ddtOk_take {L : List (Elem k3)} (h : ddtOk L = true) (k : Nat) : ddtOk (L.take k) = true := by
  unfold ddtOk at h ⊢
  rw [Bool.and_eq_true, decide_eq_true_eq, List.all_eq_true] at h ⊢
  refine ⟨by rw [List.length_take]; omega, fun i hi => ?_⟩
  have hi := List.mem_range.1 hi
  rw [List.length_take] at hi
  exact okAt_take (by omega) (h.2 i (List.mem_range.2 (by omega)))
theorem ddtOk_drop {L : List (Elem k3)} (h : ddtOk L = true) (k : Nat) : ddtOk (L.drop k) = true := by
  unfold ddtOk at h ⊢
  rw [Bool.and_eq_true, decide_eq_true_eq, List.all_eq_true] at h ⊢
  refine ⟨by rw [List.length_drop]; omega, fun i hi => ?_⟩
  have hi := List.mem_range.1 hi
  rw [List.length_drop] at hi
  exact okAt_drop (h.2 (k + i) (List.mem_range.2 (by omega)))
theorem entT_free {L : List (Elem k3)} (hd : ddtOk L = true) : ∀ e ∈ entS L, (32 : UInt8) ∉ e.1.data.toList := by
  intro e he
  unfold entS at he
  obtain ⟨x, hx, rfl⟩ := List.mem_map.1 he
  obtain ⟨j, hj, rfl⟩ := List.getElem_of_mem hx
  obtain ⟨a, b, c⟩ := ddtOk_ent hd hj
  rw [List.getD_eq_getElem?_getD, List.getElem?_eq_getElem hj] at a b c
  exact pts3_free a.1 b.1 c.1
/-- What is written of valid entries is read as it was. -/
theorem dd_back {L : List (Elem k3)} (hd : ddtOk L = true) : ddK (ddtT L) = true ∧ ddL (ddtT L) = L := by
  by_cases h0 : L = []
  · subst h0
    rw [ddtT_nil]
    have he : strEq ⟨#[]⟩ ⟨#[]⟩ = true := strEq_self _
    refine ⟨?_, ?_⟩
    · unfold ddK
      rw [he]
      rfl
    · unfold ddL
      rw [he]
  · have hcut : cutL (ddtT L) 32 = entS L := by
      have e : ddtT L = joinT (entS L) ⟨#[32]⟩ := by unfold ddtT; rw [hd]
      rw [e]
      exact cut_join (by unfold entS; simpa using h0) (entT_free hd)
    have hl : L.length = (cutL (ddtT L) 32).length := by rw [hcut]; unfold entS; rw [List.length_map]
    have hw : ∀ j, j < L.length → wz (ddtT L) j = entT (L.getD j (edflt k3)) := by
      intro j hj
      unfold wz wd at1
      rw [hcut, List.getD_eq_getElem?_getD, List.getD_eq_getElem?_getD]
      unfold entS
      rw [List.getElem?_map, List.getElem?_eq_getElem hj]
      rfl
    obtain ⟨k1, _, k3', _, k5⟩ := dd_key hl hd hw
    have hne : strEq (ddtT L) ⟨#[]⟩ = false := by
      cases hs : strEq (ddtT L) ⟨#[]⟩ with
      | false => rfl
      | true =>
        have he := strEq_iff.1 hs
        rw [he] at hcut
        have h1 : cutL ⟨#[]⟩ 32 = [(⟨#[]⟩, ())] := by decide +kernel
        rw [h1] at hcut
        have := (entS_size hd (⟨#[]⟩, ()) (by rw [← hcut]; simp)).1
        exact absurd this (by decide)
    have hK : ddK (ddtT L) = true := by
      have := ddtT_size L
      unfold ddK
      rw [hne, decide_eq_true (show ((ddtT L).size : Int) ≤ 1000 by omega), k3', k1, hd, strEq_self]
      rfl
    refine ⟨hK, ?_⟩
    unfold ddL
    rw [hne, hK]
    exact k1
/-- A text that is read is the text of what was read. -/
theorem dd_again {t : ByteArray} (h : ddK t = true) : strEq (ddtT (ddL t)) t = true := by
  cases he : strEq t ⟨#[]⟩ with
  | true =>
    have e := strEq_iff.1 he
    unfold ddL
    rw [he, e]
    show strEq (ddtT []) ⟨#[]⟩ = true
    rw [ddtT_nil, strEq_self]
  | false =>
    have e : ddL t = enL t := by unfold ddL; rw [he, h]
    rw [e]
    unfold ddK at h
    rw [he, Bool.false_or, Bool.and_eq_true, Bool.and_eq_true, Bool.and_eq_true] at h
    exact h.2.2.2
theorem ddL_short {t : ByteArray} (h : t.size ≤ 2000) : (ddL t).length ≤ 2001 := by
  have hc := cutL_len t 32
  unfold ddL
  repeat' split
  · exact Nat.zero_le _
  · rw [enL_len]; omega
  · exact Nat.zero_le _
theorem c5 (c m : List (Elem ku)) (hc : okB c = true) (hm : okB m = true) : Ctr Tryd.prog 5 [.rsl [.int .u8] c, .rsl [.int .u8] m] [] ⟨.val (.bool true), [], []⟩ := by
  refine ctr_fn okr hg5 Tryd.func5 (by kernel_rfl) (by kernel_rfl) (by kernel_rfl) fun C => ?_
  rw [e5]
  refine br_dec (fun _ => rfl) (fun h1 => br_dec (fun _ => rfl) (fun h2 => ?_))
  have hcl : (okB c && decide (c.length ≤ 1048576)) = true := by rw [hc, decide_eq_true (show c.length ≤ 1048576 by omega)]; rfl
  have hml : (okB m && decide (m.length ≤ 1048576)) = true := by rw [hm, decide_eq_true (show m.length ≤ 1048576 by omega)]; rfl
  have hL := drL_len (opB_ok hc)
  have hT := tornD_size (opB m)
  generalize tornD (opB m) = T at *
  generalize drL (opB c) = L at *
  have dL : decide (L.length ≤ 1048576) = true := decide_eq_true (by omega)
  have dT : decide (T.size ≤ 1048576) = true := decide_eq_true (by omega)
  refine br_t hcl (br_t dL (br_t dL (br_f (by rw [strEq_self]; rfl) (br_t dL (br_not (fun h3 => br_t dL ?_) (fun h3 => ?_))))))
  · rw [strEq_self]
  rw [wrap_id (n := (L.length : Int) + 1) (by omega) (by omega)]
  have hq : 0 ≤ (m.length : Int).tmod ((L.length : Int) + 1) ∧ (m.length : Int).tmod ((L.length : Int) + 1) < (L.length : Int) + 1 := by
    rw [Int.tmod_eq_emod_of_nonneg (by omega)]
    exact ⟨Int.emod_nonneg _ (by omega), Int.emod_lt_of_pos _ (by omega)⟩
  obtain ⟨k, hk⟩ : ∃ k : Nat, (m.length : Int).tmod ((L.length : Int) + 1) = k := ⟨((m.length : Int).tmod ((L.length : Int) + 1)).toNat, by omega⟩
  rw [hk] at hq ⊢
  rw [Int.sub_zero, Int.toNat_natCast, show ((L.length : Int) - (k : Int)).toNat = L.length - k by omega, List.drop_zero, List.take_of_length_le (l := L.drop k) (by rw [List.length_drop]; exact Nat.le_refl _), List.nil_append]
  obtain ⟨a1, a2⟩ := dd_back (ddtOk_take h3 k)
  obtain ⟨b1, b2⟩ := dd_back (ddtOk_drop h3 k)
  have s1 := ddtT_size (L.take k)
  have s2 := ddtT_size (L.drop k)
  rw [a1, a2, b1, b2, List.take_append_drop, eqP_self]
  have l1 : (L.take k).length ≤ L.length := by rw [List.length_take]; omega
  have l2 : (L.drop k).length ≤ L.length := by rw [List.length_drop]; omega
  refine br_t (by rw [decide_eq_false (show ¬ (L.length : Int) + 1 = 0 by omega)]; rfl) (br_yes ⟨by omega, by omega, by omega, by omega⟩ (br_yes (by omega) (br_yes (by omega) (br_yes ⟨by omega, by omega, by omega, by omega⟩ (br_yes (by omega) (br_yes (by omega) (br_t hml (br_t dT (br_t dT ?_)))))))))
  refine br_t rfl (br_t rfl (br_yes (by omega) (br_yes (by omega) (br_t dL (br_t rfl (br_t (by simp) (br_not (fun h4 => rfl) (fun h4 => br_yes ?_ ?_))))))))
  · have := ddL_short hT
    omega
  · rw [dd_again h4]
theorem okB_of {b : List (Elem ku)} (h : ∀ e ∈ b, elemOk ku e) : okB b = true := by
  unfold okB
  rw [List.all_eq_true]
  intro e he
  have h1 : (decide (IntKind.u8.min ≤ (e.1 : Int)) && decide ((e.1 : Int) ≤ IntKind.u8.max)) = true := (h e he).1
  simp only [Bool.and_eq_true, decide_eq_true_eq] at h1
  have e0 : IntKind.u8.min = 0 := rfl
  have e1 : IntKind.u8.max = 255 := rfl
  have this : 0 ≤ (e.1 : Int) ∧ (e.1 : Int) ≤ 255 := by
    rw [e0, e1] at h1
    exact h1
  exact decide_eq_true this
end Go.Proofs.YtkjnijddbiconaaDoor.Ev
