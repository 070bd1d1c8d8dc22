/- The law of DdtText. -/
import Derived.Test.YtkjnijddbiconaaGreatDoorD5
import Derived.Test.YtkjnijddbiconaaGreatDoorD3
namespace Go.Proofs.YtkjnijddbiconaaGreatDoor.Ev
open Go
set_option linter.unusedVariables false
set_option linter.unusedSimpArgs false
set_option maxRecDepth 100000
def entT (e : Elem k3) : ByteArray := dec e.1 ++ ⟨#[46]⟩ ++ dec e.2.1 ++ ⟨#[46]⟩ ++ dec e.2.2.1
def entS (xs : List (Elem k3)) : List (Elem ks) := xs.map fun e => (entT e, ())
def ddtT (xs : List (Elem k3)) : ByteArray := match ddtOk xs with
  | true => joinT (entS xs) ⟨#[32]⟩
  | false => ByteArray.empty
def g312 : G1
  | [.rsl [.int .i64, .int .i64, .int .i64] xs], [], k => br (decide (xs.length ≤ 1048576)) (k ⟨.val (.string (ddtT xs)), [], []⟩) False
  | _, _, _ => False
theorem ddtOk_len {xs : List (Elem k3)} (h : ddtOk xs = true) : xs.length ≤ 48 := by
  simp [ddtOk] at h
  exact h.1
theorem ddtOk_ent {xs : List (Elem k3)} (h : ddtOk xs = true) {k : Nat} (hk : k < xs.length) : (0 ≤ (xs.getD k (edflt k3)).1 ∧ (xs.getD k (edflt k3)).1 ≤ 65520) ∧ (0 ≤ (xs.getD k (edflt k3)).2.1 ∧ (xs.getD k (edflt k3)).2.1 ≤ 65520) ∧ (0 ≤ (xs.getD k (edflt k3)).2.2.1 ∧ (xs.getD k (edflt k3)).2.2.1 ≤ 65520) := by
  simp only [ddtOk, Bool.and_eq_true, List.all_eq_true] at h
  have := h.2 k (by simpa using hk)
  simp only [okAt, at3, entryOk, within, Bool.and_eq_true] at this
  obtain ⟨⟨⟨⟨a1, a2⟩, a3, a4⟩, a5, a6⟩, _⟩ := this
  exact ⟨⟨of_decide_eq_true a1, of_decide_eq_true a2⟩, ⟨Int.le_trans (by decide) (of_decide_eq_true a3), Int.le_trans (of_decide_eq_true a4) (by decide)⟩, ⟨Int.le_trans (by decide) (of_decide_eq_true a5), Int.le_trans (of_decide_eq_true a6) (by decide)⟩⟩
theorem ent_size {a : Int} (ha : 0 ≤ a ∧ a ≤ 65520) : (dec a).size ≤ 32761 := by
  have s1 := dec_size (n := a) (by omega) (by omega)
  omega
theorem intercalate_snoc (s x : List UInt8) : ∀ (l : List (List UInt8)), l ≠ [] → s.intercalate (l ++ [x]) = s.intercalate l ++ s ++ x
  | [], h => absurd rfl h
  | [y], _ => by simp [List.intercalate, List.intersperse]
  | y :: z :: l, _ => by
    have ih := intercalate_snoc s x (z :: l) (by simp)
    simp only [List.intercalate, List.cons_append, List.intersperse, List.flatten_cons] at ih ⊢
    cases l with
    | nil =>
      simp [List.intersperse] at ih ⊢
    | cons u l =>
      simp only [List.cons_append, List.intersperse, List.flatten_cons, List.append_assoc] at ih ⊢
      rw [ih]
theorem joinT_one (t sep : ByteArray) : joinT [(t, ())] sep = t := by
  unfold joinT
  apply ByteArray.ext
  apply Array.ext'
  simp [List.intercalate, List.intersperse]
theorem joinT_snoc (ys : List (Elem ks)) (t sep : ByteArray) (h : ys ≠ []) : joinT (ys ++ [(t, ())]) sep = joinT ys sep ++ sep ++ t := by
  unfold joinT
  rw [List.map_append]
  apply ByteArray.ext
  rw [ByteArray.data_append, ByteArray.data_append]
  apply Array.ext'
  rw [Array.toList_append, Array.toList_append]
  show sep.data.toList.intercalate (ys.map _ ++ [t.data.toList]) = sep.data.toList.intercalate _ ++ sep.data.toList ++ t.data.toList
  exact intercalate_snoc _ _ _ (by simpa using h)
theorem entS_next (xs : List (Elem k3)) {i : Nat} (hi : i < xs.length) : (entS xs).take (i + 1) = (entS xs).take i ++ [(entT (xs.getD i (edflt k3)), ())] := by
  have hx : (entS xs)[i]? = some (entT (xs.getD i (edflt k3)), ()) := by
    unfold entS
    rw [List.getElem?_map, List.getD_eq_getElem?_getD, List.getElem?_eq_getElem hi]
    rfl
  rw [List.take_add_one, hx]
  rfl
theorem entT_join (e : Elem k3) : joinT (decS [(e.1, ()), (e.2.1, ()), (e.2.2.1, ())]) ⟨#[46]⟩ = entT e := by
  show joinT [(dec e.1, ()), (dec e.2.1, ()), (dec e.2.2.1, ())] ⟨#[46]⟩ = _
  rw [join3]
  rfl
end Go.Proofs.YtkjnijddbiconaaGreatDoor.Ev
