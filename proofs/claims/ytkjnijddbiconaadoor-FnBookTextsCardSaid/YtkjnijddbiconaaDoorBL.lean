/- The law FnBookTexts: plain. -/
import Derived.Test.YtkjnijddbiconaaDoorT1
namespace Go.Proofs.YtkjnijddbiconaaDoor.Ev
open Go
set_option linter.unusedVariables false
set_option linter.unusedSimpArgs false
set_option maxRecDepth 100000
theorem btx_asc (bk : List (Elem kb)) : Asc bl (vlS (btx bk)) := by
  unfold btx
  split
  · exact (foldS_ok (bk.flatMap bks) [] (by unfold vlS Asc; simp)).1
  · unfold vlS Asc
    simp
theorem btx_mem {bk : List (Elem kb)} (h : bookOk bk = true) (a : List UInt8) : a ∈ vlS (btx bk) ↔ a ∈ vlS (txs bk) := by
  rw [btx_t h]
  unfold btxS txs
  rw [(foldS_ok (bk.flatMap bks) [] (by unfold vlS Asc; simp)).2 a]
  constructor
  · rintro (h | h)
    · simp [vlS] at h
    · exact h
  · exact .inr
theorem bksF_len : ∀ l : List (Elem kb), (l.flatMap bks).length = 8 * l.length
  | [] => rfl
  | e :: l => by rw [List.flatMap_cons, List.length_append, bksF_len l, bks_len, List.length_cons]; omega
theorem btx_len (bk : List (Elem kb)) : (btx bk).length ≤ 8 * bk.length := by
  unfold btx
  split
  · have h := foldS_len (bk.flatMap bks) []
    rw [bksF_len, List.length_nil, Nat.zero_add] at h
    exact h
  · exact Nat.zero_le _
theorem btx_48 (bk : List (Elem kb)) : (btx bk).length ≤ 48 := by
  cases h : bookOk bk with
  | true =>
    have := bok_len h
    have := btx_len bk
    omega
  | false =>
    rw [btx_f h]
    exact Nat.zero_le _
theorem vlS_at {L : List (Elem ks)} {i : Nat} (hi : i < L.length) : (at1 L i).data.toList = (vlS L)[i]'(by rw [vlS_len]; exact hi) := by
  rw [at_vlS L hi, List.getD_eq_getElem?_getD, List.getElem?_eq_getElem (by rw [vlS_len]; exact hi)]
  rfl
theorem btx_full {bk : List (Elem kb)} {i : Nat} (hi : i < (btx bk).length) : strEq (at1 (btx bk) i) ⟨#[]⟩ = false := by
  cases hb : bookOk bk with
  | false =>
    rw [btx_f hb] at hi
    exact absurd hi (Nat.not_lt_zero _)
  | true =>
    have hm : (at1 (btx bk) i).data.toList ∈ vlS (btx bk) := by
      rw [vlS_at hi]
      exact List.getElem_mem _
    rw [btx_mem hb] at hm
    unfold vlS txs at hm
    obtain ⟨u, hu, he⟩ := List.mem_map.1 hm
    have hf := (List.mem_filter.1 hu).2
    have e : u.1 = at1 (btx bk) i := by
      apply ByteArray.ext
      apply Array.ext'
      exact he
    rw [← e]
    simpa [full] using hf
theorem btx_up {bk : List (Elem kb)} {i : Nat} (hi : i + 1 < (btx bk).length) : (strLt (at1 (btx bk) (i + 1)) (at1 (btx bk) i) || strEq (at1 (btx bk) (i + 1)) (at1 (btx bk) i)) = false := by
  have h := List.pairwise_iff_getElem.1 (btx_asc bk) i (i + 1) (by rw [vlS_len]; omega) (by rw [vlS_len]; exact hi) (by omega)
  rw [← vlS_at (by omega), ← vlS_at hi] at h
  rw [Bool.or_eq_false_iff]
  refine ⟨?_, ?_⟩
  · rw [strLt_bl]
    cases hc : Op.bytesLess (at1 (btx bk) (i + 1)).data.toList (at1 (btx bk) i).data.toList with
    | false => rfl
    | true =>
      have := bl_trans _ _ _ h hc
      rw [bl_irrefl] at this
      cases this
  · cases hc : strEq (at1 (btx bk) (i + 1)) (at1 (btx bk) i) with
    | false => rfl
    | true =>
      rw [strEq_iff.1 hc] at h
      have h2 := bl_irrefl (at1 (btx bk) i).data.toList
      rw [show Op.bytesLess (at1 (btx bk) i).data.toList (at1 (btx bk) i).data.toList = true from h] at h2
      cases h2
theorem btx_has {bk : List (Elem kb)} (hb : bookOk bk = true) {i j : Nat} (hi : i < bk.length) (hj : j < 8) (h : strEq (at1 (bks (atB bk i)) j) ⟨#[]⟩ = false) : ∃ m, m < (btx bk).length ∧ strEq (at1 (btx bk) m) (at1 (bks (atB bk i)) j) = true := by
  have hu : (bks (atB bk i)).getD j (edflt ks) ∈ txs bk := by
    unfold txs
    refine List.mem_filter.2 ⟨List.mem_flatMap.2 ⟨atB bk i, ?_, ?_⟩, ?_⟩
    · unfold atB
      rw [List.getD_eq_getElem?_getD, List.getElem?_eq_getElem hi]
      exact List.getElem_mem _
    · rw [List.getD_eq_getElem?_getD, List.getElem?_eq_getElem (by rw [bks_len]; exact hj)]
      exact List.getElem_mem _
    · show (!strEq (at1 (bks (atB bk i)) j) ⟨#[]⟩) = true
      rw [h]
      rfl
  have hm : (at1 (bks (atB bk i)) j).data.toList ∈ vlS (btx bk) := by
    rw [btx_mem hb]
    unfold vlS
    exact List.mem_map.2 ⟨_, hu, rfl⟩
  obtain ⟨m, hm, e⟩ := List.getElem_of_mem hm
  have hm' : m < (btx bk).length := by rw [vlS_len] at hm; exact hm
  refine ⟨m, hm', strEq_iff.2 ?_⟩
  apply ByteArray.ext
  apply Array.ext'
  rw [vlS_at hm', e]
end Go.Proofs.YtkjnijddbiconaaDoor.Ev
