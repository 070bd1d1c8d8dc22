/- The law of LogText: the program's own text. -/
import Derived.Test.YtljilcingbohkabDoorD9
namespace Go.Proofs.YtljilcingbohkabDoor.Ev
open Go
set_option linter.unusedVariables false
set_option linter.unusedSimpArgs false
set_option maxRecDepth 100000
theorem join2 (a b p : ByteArray) : joinT [(a, ()), (b, ())] p = a ++ p ++ b := by
  unfold joinT
  apply ByteArray.ext
  rw [ByteArray.data_append, ByteArray.data_append]
  apply Array.ext'
  simp [List.intercalate, List.intersperse]
theorem join5 (a b c d e p : ByteArray) : joinT [(a, ()), (b, ()), (c, ()), (d, ()), (e, ())] p = a ++ p ++ b ++ p ++ c ++ p ++ d ++ p ++ e := by
  unfold joinT
  apply ByteArray.ext
  simp only [ByteArray.data_append]
  apply Array.ext'
  simp [List.intercalate, List.intersperse]
theorem h107 : G1Ok Tryd.prog 107 g104 := by
  intro args obs k h
  unfold g104 at h
  split at h
  · rename_i k x q n a b i t
    obtain ⟨ha, h⟩ := br_and h
    refine ⟨_, ctr_fn ok0 hg107 Tryd.func107 (by kernel_rfl) (by kernel_rfl) (by kernel_rfl) fun C => ?_, h⟩
    rw [e107]
    refine br_not (fun h0 => ?_) (fun h0 => br_not (fun h1 => ?_) (fun h1 => br_bne (fun h2 => ?_) (fun h2 => br_t ha (br_not (fun h3 => ?_) (fun h3 => br_not (fun h4 => ?_) (fun h4 => br_not (fun h5 => ?_) (fun h5 => br_dec (fun h6 => ?_) (fun h6 => ?_))))))))
    · show _ = _
      have e : lgOk x q n a b i t = false := by
        unfold lgOk
        simp only [Bool.and_eq_false_iff, decide_eq_false_iff_not] at h0
        rcases h0 with g | g <;> simp [g]
      unfold logT
      rw [e]
      rfl
    · show _ = _
      have e : lgOk x q n a b i t = false := by
        unfold lgOk
        simp only [Bool.and_eq_false_iff, decide_eq_false_iff_not] at h1
        rcases h1 with g | g <;> simp [g]
      unfold logT
      rw [e]
      rfl
    · show _ = _
      have e : lgOk x q n a b i t = false := by
        unfold lgOk
        simp [h2]
      unfold logT
      rw [e]
      rfl
    · show _ = _
      have e : lgOk x q n a b i t = false := by
        unfold lgOk
        simp [h3]
      unfold logT
      rw [e]
      rfl
    · show _ = _
      have e : lgOk x q n a b i t = false := by
        unfold lgOk
        simp [h4]
      unfold logT
      rw [e]
      rfl
    · show _ = _
      have e : lgOk x q n a b i t = false := by
        unfold lgOk
        simp only [Bool.and_eq_false_iff, decide_eq_false_iff_not] at h5
        rcases h5 with g | g <;> simp [g]
      unfold logT
      rw [e]
      rfl
    · show _ = _
      have e : lgOk x q n a b i t = false := by
        unfold lgOk
        rw [decide_eq_false (show ¬ (t.size : Int) ≤ 24 by omega)]
        simp
      unfold logT
      rw [e]
      rfl
    simp only [Bool.and_eq_true, decide_eq_true_eq] at h0 h1 h5
    have e : lgOk x q n a b i t = true := by
      unfold lgOk
      rw [decide_eq_true (show 1 ≤ x by omega), decide_eq_true (show x ≤ 1000000 by omega), decide_eq_true (show 0 ≤ q by omega), decide_eq_true (show q ≤ 7 by omega), h2, h3, h4, decide_eq_true (show 0 ≤ i by omega), decide_eq_true (show i ≤ 7 by omega), decide_eq_true (show (t.size : Int) ≤ 24 by omega)]
      rfl
    have d1 := dec_size (n := x) (by omega) (by omega)
    have d2 := dec_size (n := q) (by omega) (by omega)
    have d3 := dec_size (n := i) (by omega) (by omega)
    have d4 := nameOk_size h3
    have d5 := hexT_size t
    have c1 : (⟨#[46]⟩ : ByteArray).size = 1 := rfl
    have c2 : (⟨#[32]⟩ : ByteArray).size = 1 := rfl
    have c3 : (⟨#[45]⟩ : ByteArray).size = 1 := rfl
    have mk : joinT (decS [(x, ()), (q, ())]) ⟨#[46]⟩ = dec x ++ ⟨#[46]⟩ ++ dec q := join2 _ _ _
    have n1 : allN [(x, ()), (q, ())] = true := by
      show (inN x && (inN q && true)) = true
      rw [inN_of (n := x) (by omega) (by omega), inN_of (n := q) (by omega) (by omega)]
      rfl
    have n2 : inN i = true := inN_of (by omega) (by omega)
    rw [mk, join5, join5]
    have res : ∀ u, u = hexO t → (some ⟨.val (.string (sealT (dec x ++ ⟨#[46]⟩ ++ dec q ++ ⟨#[32]⟩ ++ a ++ ⟨#[32]⟩ ++ dec i ++ ⟨#[32]⟩ ++ u ++ ⟨#[32]⟩ ++ (dec x ++ ⟨#[46]⟩ ++ dec q)))), [], []⟩ : Option Res) = some ⟨.val (.string (logT x q n a b i t)), [], []⟩ := by
      intro u hu
      subst hu
      unfold logT logB
      rw [e]
    refine br_t ?_ (br_yes (by omega) (br_intro (fun h7 => br_t n2 (br_t ?_ (br_yes ?_ (res _ (by unfold hexO; rw [h7]))))) (fun h7 => br_t n2 (br_t ?_ (br_yes ?_ (res _ (by unfold hexO; rw [h7])))))))
    · rw [n1]
      simp only [ByteArray.size_append, c1, Bool.true_and, List.length_cons, List.length_nil, Bool.and_eq_true, decide_eq_true_eq]
      omega
    · simp only [ByteArray.size_append, c1, c2, c3, List.length_cons, List.length_nil, Bool.and_eq_true, decide_eq_true_eq]
      omega
    · simp only [ByteArray.size_append, c1, c2, c3]
      omega
    · simp only [ByteArray.size_append, c1, c2, c3, List.length_cons, List.length_nil, Bool.and_eq_true, decide_eq_true_eq]
      omega
    · simp only [ByteArray.size_append, c1, c2, c3]
      omega
  · exact h.elim
end Go.Proofs.YtljilcingbohkabDoor.Ev
