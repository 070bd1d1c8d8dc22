/- The law of CoreRootRead: what a root's text says. -/
import Derived.Test.YtkjnijddbiconaaGreatDoorRW
namespace Go.Proofs.YtkjnijddbiconaaGreatDoor.Ev
open Go
set_option linter.unusedVariables false
set_option linter.unusedSimpArgs false
set_option maxRecDepth 100000
set_option maxHeartbeats 1000000
theorem rn_free {a : ByteArray} (h : nameOk a = true) {c : UInt8} (hc : c.toNat < 97) : c ∉ a.data.toList := by
  unfold nameOk at h
  rw [Bool.and_eq_true] at h
  intro hm
  obtain ⟨i, hi, e⟩ := List.getElem_of_mem hm
  have hi' : i < a.size := hi
  have := allB_at h.2 hi'
  rw [byteAt_l a hi'] at this
  simp only [Bool.and_eq_true, decide_eq_true_eq] at this
  rw [e] at this
  omega
theorem ptrT_free (a b c : Int) {x : UInt8} (hx : x.toNat < 45) : x ∉ (ptrT a b c).data.toList := by
  unfold ptrT
  split
  · intro hm
    cases hm
  · rename_i h1
    split
    · intro hm
      have : x = 45 := by simpa using hm
      subst this
      exact absurd hx (by decide)
    · obtain ⟨r1, r2, r3⟩ := ptr_range h1
      have n1 := dec_free (n := a) (by omega) (c := x) (by omega)
      have n2 := dec_free (n := b) (by omega) (c := x) (by omega)
      have n3 := dec_free (n := c) (by omega) (c := x) (by omega)
      simp only [ByteArray.data_append, Array.toList_append, List.mem_append]
      have dot : x ∉ (⟨#[46]⟩ : ByteArray).data.toList := by
        intro hm
        have : x = 46 := by simpa using hm
        subst this
        exact absurd hx (by decide)
      intro hm
      rcases hm with ((((hm | hm) | hm) | hm) | hm)
      · exact n1 hm
      · exact dot hm
      · exact n2 hm
      · exact dot hm
      · exact n3 hm
theorem frm_free {a : ByteArray} (h : (strEq a ⟨#[]⟩ || nameOk a) = true) {x : UInt8} (hx : x.toNat < 45) : x ∉ (frm a).data.toList := by
  unfold frm
  split
  · intro hm
    have : x = 45 := by simpa using hm
    subst this
    exact absurd hx (by decide)
  · rename_i h1
    rw [h1, Bool.false_or] at h
    exact rn_free h (by omega)
def bdS (e : Elem kc) : ByteArray := e.1 ++ ⟨#[32]⟩ ++ dec e.2.1 ++ ⟨#[32]⟩ ++ frm e.2.2.1 ++ ⟨#[32]⟩ ++ ptrT (hom e).1 (hom e).2.1 (hom e).2.2.1
def bdP (e : Elem k3) : ByteArray := ⟨#[46, 32]⟩ ++ ptrT e.1 e.2.1 e.2.2.1
theorem setV_parts {e : Elem kc} (h : setV e = true) : nameOk e.1 = true ∧ (strEq e.2.2.1 ⟨#[]⟩ || nameOk e.2.2.1) = true ∧ (e.2.1 = 1 ∨ e.2.1 = 2) := by
  unfold setV at h
  simp only [Bool.and_eq_true] at h
  refine ⟨h.1.1.1.1, h.1.1.1.2, ?_⟩
  have := h.1.1.2
  simpa using this
theorem setV_nn {e : Elem kc} (h : setV e = true) : (0 : Int) ≤ e.2.1 ∧ (e.2.1 : Int) < 1000000000000000 := by
  obtain ⟨h1, h2, h3⟩ := setV_parts h
  rcases h3 with h3 | h3 <;> rw [h3] <;> decide
theorem bdS_cut {e : Elem kc} (h : setV e = true) : cutL (bdS e) 32 = [(e.1, ()), (dec e.2.1, ()), (frm e.2.2.1, ()), (ptrT (hom e).1 (hom e).2.1 (hom e).2.2.1, ())] := by
  obtain ⟨h1, h2, h3⟩ := setV_parts h
  refine cutL_of (ws := [e.1, dec e.2.1, frm e.2.2.1, ptrT (hom e).1 (hom e).2.1 (hom e).2.2.1]) (by simp) (fun w hw => ?_) ?_
  · have hc : (UInt8.ofNat (32 : Int).toNat).toNat = 32 := rfl
    simp only [List.mem_cons, List.not_mem_nil, or_false] at hw
    rcases hw with rfl | rfl | rfl | rfl
    · exact rn_free h1 (by rw [hc]; omega)
    · exact dec_free (setV_nn h).1 (by rw [hc]; omega)
    · exact frm_free h2 (by rw [hc]; omega)
    · exact ptrT_free _ _ _ (by rw [hc]; omega)
  · unfold bdS
    simp only [ByteArray.data_append, Array.toList_append]
    simp [joinW]
theorem bdS_free {e : Elem kc} (h : setV e = true) : (10 : UInt8) ∉ (bdS e).data.toList := by
  obtain ⟨h1, h2, h3⟩ := setV_parts h
  have n1 := rn_free h1 (c := 10) (by decide)
  have n2 := dec_free (n := e.2.1) (setV_nn h).1 (c := 10) (by decide)
  have n3 := frm_free h2 (x := 10) (by decide)
  have n4 := ptrT_free (hom e).1 (hom e).2.1 (hom e).2.2.1 (x := 10) (by decide)
  unfold bdS
  simp only [ByteArray.data_append, Array.toList_append, List.mem_append]
  intro hm
  rcases hm with ((((((hm | hm) | hm) | hm) | hm) | hm) | hm)
  · exact n1 hm
  · exact absurd hm (by decide)
  · exact n2 hm
  · exact absurd hm (by decide)
  · exact n3 hm
  · exact absurd hm (by decide)
  · exact n4 hm
theorem bdP_free (e : Elem k3) : (10 : UInt8) ∉ (bdP e).data.toList := by
  have n4 := ptrT_free e.1 e.2.1 e.2.2.1 (x := 10) (by decide)
  unfold bdP
  simp only [ByteArray.data_append, Array.toList_append, List.mem_append]
  intro hm
  rcases hm with hm | hm
  · exact absurd hm (by decide)
  · exact n4 hm
theorem bdP_cut (e : Elem k3) : cutL (bdP e) 32 = [(⟨#[46]⟩, ()), (ptrT e.1 e.2.1 e.2.2.1, ())] := by
  refine cutL_of (ws := [⟨#[46]⟩, ptrT e.1 e.2.1 e.2.2.1]) (by simp) (fun w hw => ?_) ?_
  · have hc : (UInt8.ofNat (32 : Int).toNat).toNat = 32 := rfl
    simp only [List.mem_cons, List.not_mem_nil, or_false] at hw
    rcases hw with rfl | rfl
    · decide
    · exact ptrT_free _ _ _ (by rw [hc]; omega)
  · unfold bdP
    simp only [ByteArray.data_append, Array.toList_append]
    simp [joinW]
theorem fold_data {α : Type} (g : α → ByteArray) : ∀ (xs : List α) (o : ByteArray), (xs.foldl (fun o e => o ++ g e) o).data.toList = o.data.toList ++ (xs.map fun e => (g e).data.toList).flatten
  | [], o => by simp
  | x :: xs, o => by
    rw [List.foldl_cons, fold_data g xs]
    simp [ByteArray.data_append, Array.toList_append]
theorem joinW_all (c : UInt8) : ∀ (w : List UInt8) (ws : List (List UInt8)), joinW c (w :: ws) = w ++ (ws.map fun v => c :: v).flatten
  | w, [] => by simp [joinW]
  | w, v :: ws => by
    rw [joinW, joinW_all c v ws]
    simp
/-- The lines of a root's text. -/
def lns (s : List (Elem kc)) (p : List (Elem k3)) : List ByteArray := s.map bdS ++ p.map bdP
theorem root_cut {s : List (Elem kc)} {p : List (Elem k3)} (h : ∀ e ∈ s, setV e = true) : cutL (rtP s p) 10 = (⟨#[114, 111, 111, 116]⟩ :: lns s p).map fun w => (w, ()) := by
  refine cutL_of (by simp) (fun w hw => ?_) ?_
  · have hc : UInt8.ofNat (10 : Int).toNat = 10 := rfl
    rw [hc]
    rcases List.mem_cons.1 hw with rfl | hw
    · decide
    · rcases List.mem_append.1 hw with hw | hw
      · obtain ⟨e, he, rfl⟩ := List.mem_map.1 hw
        exact bdS_free (h e he)
      · obtain ⟨e, he, rfl⟩ := List.mem_map.1 hw
        exact bdP_free e
  · have hc : UInt8.ofNat (10 : Int).toNat = 10 := rfl
    rw [hc, List.map_cons, joinW_all]
    unfold rtP rtS lns
    rw [fold_data, fold_data, List.append_assoc]
    congr 1
    rw [List.map_append, List.map_append, List.flatten_append, List.map_map, List.map_map, List.map_map, List.map_map]
    congr 2
/-- A line of four words has a number in its second. -/
def ok4 (l : ByteArray) : Prop := is4 l = true → numK (wd l 32 1) = true ∧ atK (wd l 32 1) = true ∧ atN (wd l 32 1) = numN (wd l 32 1)
theorem ok4_S {e : Elem kc} (h : setV e = true) : ok4 (bdS e) := by
  intro _
  obtain ⟨n0, n1⟩ := setV_nn h
  have w1 : wd (bdS e) 32 1 = dec e.2.1 := by
    unfold wd
    rw [bdS_cut h]
    rfl
  obtain ⟨a1, a2⟩ := num_dec n0 n1
  obtain ⟨b1, b2⟩ := at_dec n0 n1
  rw [w1]
  exact ⟨a1, b1, b2.trans a2.symm⟩
theorem ok4_P (e : Elem k3) : ok4 (bdP e) := by
  intro h
  unfold is4 wn at h
  rw [bdP_cut] at h
  cases h
theorem root_lines {t : ByteArray} {s : List (Elem kc)} {p : List (Elem k3)} (h : rootT s p = t) (hne : t ≠ ByteArray.empty) : strEq (wd t 10 0) ⟨#[114, 111, 111, 116]⟩ = true ∧ ∀ q, q < lnN t → ok4 (wd t 10 (q + 1)) := by
  unfold rootT at h
  split at h
  · rename_i hv
    rw [Bool.and_eq_true] at hv
    have hs : ∀ e ∈ s, setV e = true := by
      intro e he
      obtain ⟨i, hi, rfl⟩ := List.getElem_of_mem he
      have := allB_at hv.1 hi
      rw [show atC s i = s[i] from by show s.getD i _ = _; rw [List.getD_eq_getElem?_getD, List.getElem?_eq_getElem hi]; rfl] at this
      exact this
    have hc := root_cut (p := p) hs
    rw [h] at hc
    have hn : lnN t = (lns s p).length := by
      unfold lnN
      rw [hc, List.length_map, List.length_cons]
      omega
    refine ⟨by unfold wd; rw [hc]; exact strEq_self _, fun q hq => ?_⟩
    have hq' : q < (lns s p).length := by omega
    have hw : wd t 10 (q + 1) = (lns s p)[q] := by
      unfold wd at1
      rw [hc, List.getD_eq_getElem?_getD, List.getElem?_map, List.getElem?_cons_succ, List.getElem?_eq_getElem hq']
      rfl
    rw [hw]
    have hm := List.getElem_mem hq'
    unfold lns at hm
    rcases List.mem_append.1 hm with hm | hm
    · obtain ⟨e, he, e1⟩ := List.mem_map.1 hm
      have := ok4_S (hs e he)
      rw [e1] at this
      exact this
    · obtain ⟨e, he, e1⟩ := List.mem_map.1 hm
      have := ok4_P e
      rw [e1] at this
      exact this
  · exact absurd h.symm hne
theorem line_eq {l : ByteArray} (h : ok4 l) (s : List (Elem kc)) (p : List (Elem k3)) : lnK l = liK l ∧ (lnK l = true → lnSS s l = liS s l ∧ lnPP p l = liP p l) := by
  cases h1 : isP l with
  | true =>
    have w2 : wn l = 2 := by
      unfold isP at h1
      simp only [Bool.and_eq_true, beq_iff_eq] at h1
      omega
    obtain ⟨r1, r2, r3⟩ := ln_P h1 s p
    have hk : liK l = prK (wd l 32 1) := by unfold liK; rw [h1]
    refine ⟨by rw [r1, hk], fun hh => ?_⟩
    rw [r1] at hh
    have hL : liL l = true := by unfold liL; rw [w2]; exact hh
    obtain ⟨q1, q2, q3⟩ := li_P h1 hh hL s p
    exact ⟨by rw [r2, q2], by rw [r3, q3]⟩
  | false =>
    cases h2 : is4 l with
    | false =>
      obtain ⟨r1, r2, r3⟩ := ln_n h1 h2 s p
      obtain ⟨q1, q2, q3⟩ := li_n h1 h2 s p
      exact ⟨by rw [r1, q1], fun hh => ⟨by rw [r2, q2], by rw [r3, q3]⟩⟩
    | true =>
      have w4 : wn l = 4 := by
        have h2' := h2
        unfold is4 at h2'
        simp only [beq_iff_eq] at h2'
        omega
      obtain ⟨a1, a2, a3⟩ := h h2
      obtain ⟨r1, r2, r3⟩ := ln_4 h1 h2 s p
      have hk : liK l = (prK (wd l 32 3) && atK (wd l 32 1)) := by unfold liK; rw [h1, h2]
      refine ⟨by rw [r1, hk, a1, a2, Bool.true_and, Bool.and_true], fun hh => ?_⟩
      rw [r1, a1, Bool.true_and] at hh
      have hL : liL l = true := by unfold liL; rw [w4]; exact hh
      obtain ⟨q1, q2, q3⟩ := li_4 h1 h2 hh hL s p
      exact ⟨by rw [r2, q2, a3], by rw [r3, q3]⟩
theorem fold_eq {t : ByteArray} (h : ∀ q, q < lnN t → ok4 (wd t 10 (q + 1))) (hk : ∀ q, q < lnN t → lnK (wd t 10 (q + 1)) = true) : ∀ j, j ≤ lnN t → sS t j = iS t j ∧ sP t j = iP t j
  | 0, _ => ⟨rfl, rfl⟩
  | j + 1, hj => by
    obtain ⟨e1, e2⟩ := fold_eq h hk j (by omega)
    obtain ⟨_, e3⟩ := line_eq (h j (by omega)) (sS t j) (sP t j)
    obtain ⟨e4, e5⟩ := e3 (hk j (by omega))
    exact ⟨by show lnSS (sS t j) _ = liS (iS t j) _; rw [e4, e1], by show lnPP (sP t j) _ = liP (iP t j) _; rw [e5, e2]⟩
theorem rrQ_root {t : ByteArray} {s : List (Elem kc)} {p : List (Elem k3)} (h : rrQ t s p = true) : rootT s p = t := by
  unfold rrQ at h
  rw [Bool.and_eq_true] at h
  exact strEq_iff.1 h.1
/-- Both ways of reading say the same. -/
theorem rr_eq (t : ByteArray) : riK t = rrK t ∧ (rrK t = true → iS t (lnN t) = sS t (lnN t) ∧ iP t (lnN t) = sP t (lnN t)) := by
  have f1 : rrK t = true → riK t = true ∧ iS t (lnN t) = sS t (lnN t) ∧ iP t (lnN t) = sP t (lnN t) := by
    intro h
    unfold rrK at h
    simp only [Bool.and_eq_true] at h
    obtain ⟨h0, hw, hall, hQ⟩ := h
    have hne : t ≠ ByteArray.empty := by
      rintro rfl
      have e0 := congrArg ByteArray.size (strEq_iff.1 hw)
      have e1 := wd_size ByteArray.empty 10 0
      have e2 : (⟨#[114, 111, 111, 116]⟩ : ByteArray).size = 4 := rfl
      have e3 : ByteArray.empty.size = 0 := rfl
      omega
    obtain ⟨_, ho⟩ := root_lines (rrQ_root hQ) hne
    have hk : ∀ q, q < lnN t → lnK (wd t 10 (q + 1)) = true := fun q hq => allB_at hall hq
    obtain ⟨e1, e2⟩ := fold_eq ho hk (lnN t) (Nat.le_refl _)
    refine ⟨?_, e1.symm, e2.symm⟩
    unfold riK
    rw [← e1, ← e2, hQ, h0, allB_t fun q hq => by rw [← (line_eq (ho q hq) [] []).1]; exact hk q hq]
    rfl
  have f2 : riK t = true → rrK t = true := by
    intro h
    unfold riK at h
    simp only [Bool.and_eq_true] at h
    obtain ⟨h0, hall, hQ⟩ := h
    have hne : t ≠ ByteArray.empty := by
      rintro rfl
      exact absurd (rrQ_root hQ) (by decide)
    obtain ⟨hw, ho⟩ := root_lines (rrQ_root hQ) hne
    have hk : ∀ q, q < lnN t → lnK (wd t 10 (q + 1)) = true := fun q hq => by rw [(line_eq (ho q hq) [] []).1]; exact allB_at hall hq
    obtain ⟨e1, e2⟩ := fold_eq ho hk (lnN t) (Nat.le_refl _)
    unfold rrK
    rw [e1, e2, hQ, h0, hw, allB_t hk]
    rfl
  constructor
  · cases hI : riK t with
    | true => rw [f2 hI]
    | false =>
      cases hK : rrK t with
      | false => rfl
      | true => rw [(f1 hK).1] at hI; cases hI
  · intro h
    exact (f1 h).2
theorem ri_rr (t : ByteArray) : riK t = rrK t ∧ riS t = rrS t ∧ riP t = rrP t := by
  obtain ⟨e1, e2⟩ := rr_eq t
  refine ⟨e1, ?_⟩
  cases h : rrK t with
  | false =>
    rw [h] at e1
    rw [(rr_f h).1, (rr_f h).2, (ri_f e1).1, (ri_f e1).2]
    exact ⟨rfl, rfl⟩
  | true =>
    obtain ⟨q1, q2⟩ := e2 h
    rw [h] at e1
    rw [(rr_t h).1, (rr_t h).2, (ri_t e1).1, (ri_t e1).2, q1, q2]
    exact ⟨rfl, rfl⟩
theorem h36r : G1Ok Tryz.prog 36 g35 := by
  intro args obs k h
  refine h36 args obs k ?_
  unfold g35 at h
  split at h
  · rename_i k t
    obtain ⟨e1, e2, e3⟩ := ri_rr t
    show br _ _ _
    rw [e1, e2, e3]
    exact h
  · exact h.elim
end Go.Proofs.YtkjnijddbiconaaGreatDoor.Ev
