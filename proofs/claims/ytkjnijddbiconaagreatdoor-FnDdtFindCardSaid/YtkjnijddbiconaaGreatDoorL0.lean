/- Disks that are written. -/
import Derived.Test.YtkjnijddbiconaaGreatDoorK
namespace Go.Proofs.YtkjnijddbiconaaGreatDoor.Ev
open Go
set_option linter.unusedVariables false
set_option linter.unusedSimpArgs false
set_option maxRecDepth 100000
def g227 : G1
  | [.agg [.rsl [.str] a, .rsl [.str] b, .rsl [.int .i64, .int .i64, .str] c]], [], k => br (smD a b c) (k ⟨.agg [.ows 0, .ows 1, .ows 2], [.row ks a, .row ks b, .row kl c], []⟩) False
  | _, _, _ => False
def dwG (a b : List (Elem ks)) (c : List (Elem kl)) (s i : Int) (t : ByteArray) (n : Nat) : Bool := dkOk a b c && (decide (c.length < n) && (secOk a.length s i && decide (t.size ≤ 420)))
def g237 : G1
  | [.agg [.rsl [.str] a, .rsl [.str] b, .rsl [.int .i64, .int .i64, .str] c], .val (.int .i64 s), .val (.int .i64 i), .val (.string t)], [], k =>
    br (dwG a b c s i t 600) (k ⟨.tup [.agg [.ows 0, .ows 1, .ows 2], .val (.bool true)], [.row ks a, .row ks b, .row kl (c ++ [(s, i, t, ())])], []⟩) False
  | _, _, _ => False
def g189 : G1
  | [.agg [.rsl [.str] a, .rsl [.str] b, .rsl [.int .i64, .int .i64, .str] c], .val (.int .i64 i), .val (.string t)], [], k =>
    br (dwG a b c 0 i t 599) (k ⟨.tup [.agg [.ows 0, .ows 1, .ows 2], .val (.bool true)], [.row ks a, .row ks b, .row kl (c ++ [(0, i, t, ())] ++ [(1, i, t, ())])], []⟩) False
  | _, _, _ => False
def g187 : G1
  | [.val (.int .i64 n)], [], k => br (decide (1 ≤ n ∧ n ≤ 120)) (k ⟨.agg [.ows 0, .ows 1, .ows 2], [.row ks (List.replicate n.toNat (edflt ks)), .row ks (List.replicate n.toNat (edflt ks)), .row kl []], []⟩) False
  | _, _, _ => False
theorem dkOk_app {a b : List (Elem ks)} {c : List (Elem kl)} {s i : Int} {t : ByteArray} {n : Nat} (h : dwG a b c s i t n = true) (hn : n ≤ 600) : dkOk a b (c ++ [(s, i, t, ())]) = true := by
  unfold dwG at h
  rw [Bool.and_eq_true, Bool.and_eq_true, Bool.and_eq_true, decide_eq_true_eq, decide_eq_true_eq] at h
  obtain ⟨hd, hc, hs, ht⟩ := h
  have hb : anyBad a.length (c ++ [(s, i, t, ())]) = false := by
    simp only [dkOk, Bool.and_eq_true, Bool.not_eq_true'] at hd
    have h0 := hd.2
    unfold anyBad at h0 ⊢
    refine anyB_f fun j hj => ?_
    rw [List.length_append] at hj
    have hj : j < c.length + 1 := hj
    rw [List.getD_eq_getElem?_getD]
    by_cases hlt : j < c.length
    · rw [List.getElem?_append_left hlt, ← List.getD_eq_getElem?_getD]
      cases hx : badL a.length (c.getD j (edflt kl)) with
      | false => rfl
      | true => rw [anyB_t (i := j) hlt hx] at h0; cases h0
    · have : j = c.length := by omega
      subst this
      rw [List.getElem?_append_right (Nat.le_refl _), Nat.sub_self]
      show badL a.length (s, i, t, ()) = false
      unfold badL
      rw [hs, decide_eq_false (show ¬ ((t.size : Int) > 420) by omega)]
      rfl
  simp only [dkOk, Bool.and_eq_true, Bool.not_eq_true', decide_eq_true_eq] at hd ⊢
  obtain ⟨⟨⟨⟨⟨⟨h1, h2⟩, h3⟩, h4⟩, h5⟩, h6⟩, h115⟩ := hd
  refine ⟨⟨⟨⟨⟨⟨h1, h2⟩, h3⟩, ?_⟩, h5⟩, h6⟩, hb⟩
  rw [List.length_append]
  show c.length + 1 ≤ 600
  omega
theorem dwG_sm {a b : List (Elem ks)} {c : List (Elem kl)} {s i : Int} {t : ByteArray} {n : Nat} (h : dwG a b c s i t n = true) : smD a b c = true ∧ dkOk a b c = true ∧ c.length < n ∧ secOk a.length s i = true ∧ t.size ≤ 420 := by
  unfold dwG at h
  rw [Bool.and_eq_true, Bool.and_eq_true, Bool.and_eq_true, decide_eq_true_eq, decide_eq_true_eq] at h
  obtain ⟨hd, hc, hs, ht⟩ := h
  obtain ⟨q1, q2, q3⟩ := dkOk_b hd
  refine ⟨?_, hd, hc, hs, ht⟩
  unfold smD
  rw [decide_eq_true (by omega), decide_eq_true (by omega), decide_eq_true (by omega)]
  rfl
theorem dwG_next {a b : List (Elem ks)} {c : List (Elem kl)} {i : Int} {t : ByteArray} (h : dwG a b c 0 i t 599 = true) : dwG a b c 0 i t 600 = true ∧ dwG a b (c ++ [(0, i, t, ())]) 1 i t 600 = true := by
  obtain ⟨_, h1, h2, h3, h4⟩ := dwG_sm h
  have hz := dkOk_app h (by omega)
  have h5 : secOk a.length 1 i = true := by
    simp only [secOk, Bool.and_eq_true, decide_eq_true_eq] at h3 ⊢
    omega
  have hl : decide ((c ++ [((0 : Int), i, t, ())] : List (Elem kl)).length < 600) = true := decide_eq_true (by rw [List.length_append]; show c.length + 1 < 600; omega)
  have hl' : decide (c.length < 600) = true := decide_eq_true (by omega)
  unfold dwG
  refine ⟨?_, ?_⟩
  · rw [h1, h3, decide_eq_true h4, hl']
    rfl
  · rw [hz, h5, decide_eq_true h4]
    rw [hl]
    rfl
noncomputable def G227 : Gk := gk []
theorem hg227 : HG Tryz.prog G227 := hg_nil
theorem e227 (L : Lp) (R : Option Res → Prop) (a b : List (Elem ks)) (c : List (Elem kl)) : (bodyP E0 G227 L Tryz.f227 [.agg [.rsl ks a, .rsl ks b, .rsl kl c]] [] R) = (
    br (decide ((0 + a.length) * 16 ≤ 140737488355328)) (br (decide ((0 + b.length) * 16 ≤ 140737488355328)) (br (decide ((0 + c.length) * 32 ≤ 140737488355328)) (R (some { av := AV.agg [AV.ows 0, AV.ows 1, AV.ows 2], obs := [AO.row ks ([] ++ a), AO.row ks ([] ++ b), AO.row kl ([] ++ c)], outs := [] })) False) False) False) := by kernel_rfl
theorem h227 : G1Ok Tryz.prog 227 g227 := by
  intro args obs k h
  unfold g227 at h
  split at h
  · rename_i k a b c
    obtain ⟨hp, h⟩ := br_and h
    simp only [smD, Bool.and_eq_true, decide_eq_true_eq] at hp
    refine ⟨_, ctr_fn ok0 hg227 Tryz.func227 (by kernel_rfl) (by kernel_rfl) (by kernel_rfl) fun C => ?_, h⟩
    rw [e227]
    exact br_yes (by omega) (br_yes (by omega) (br_yes (by omega) rfl))
  · exact h.elim
noncomputable def G237 : Gk := gk [(79, g79), (227, g227), (148, g148)]
theorem hg237 : HG Tryz.prog G237 := (hg_cons h79 (hg_cons h227 (hg_cons h148 hg_nil)))
theorem e237 (L : Lp) (R : Option Res → Prop) (a b : List (Elem ks)) (c : List (Elem kl)) (s i : Int) (t : ByteArray) : (bodyP E0 G237 L Tryz.f237 [.agg [.rsl ks a, .rsl ks b, .rsl kl c], .val (.int .i64 s), .val (.int .i64 i), .val (.string t)] [] R) = (
    br (smD a b c) (br (!dkOk a b c) (R (some { av := AV.tup [AV.agg [AV.ows 0, AV.ows 1, AV.ows 2], vB false], obs := [AO.row ks [], AO.row ks [], AO.row kl []], outs := [] })) (br (smD a b c) (br (!(secOk a.length s i && decide ((↑t.size : Int) ≤ 420))) (R (some { av := AV.tup [AV.agg [AV.ows 0, AV.ows 1, AV.ows 2], vB false], obs := [AO.row ks a, AO.row ks b, AO.row kl c], outs := [] })) (br ((↑c.length : Int) == 600) (R (some { av := AV.tup [AV.agg [AV.ows 0, AV.ows 1, AV.ows 2], vB false], obs := [AO.row ks a, AO.row ks b, AO.row kl c], outs := [] })) (br (decide ((c.length + [(s, i, t, ())].length) * 32 ≤ 140737488355328)) (R (some { av := AV.tup [AV.agg [AV.ows 0, AV.ows 1, AV.ows 2], vB true], obs := [AO.row ks a, AO.row ks b, AO.row kl (c ++ [(s, i, t, ())])], outs := [] })) False))) False)) False) := by kernel_rfl
theorem h237 : G1Ok Tryz.prog 237 g237 := by
  intro args obs k h
  unfold g237 at h
  split at h
  · rename_i k a b c s i t
    obtain ⟨hp, h⟩ := br_and h
    obtain ⟨h1, h2, h3, h4, h5⟩ := dwG_sm hp
    refine ⟨_, ctr_fn ok0 hg237 Tryz.func237 (by kernel_rfl) (by kernel_rfl) (by kernel_rfl) fun C => ?_, h⟩
    rw [e237]
    refine br_t h1 (br_f (by rw [h2]; rfl) (br_t h1 (br_f (by rw [h4, decide_eq_true (show (t.size : Int) ≤ 420 by omega)]; rfl) (br_f (by simp; omega) (br_yes ?_ rfl)))))
    show (c.length + 1) * 32 ≤ _
    omega
  · exact h.elim
noncomputable def G189 : Gk := gk [(79, g79), (227, g227), (237, g237)]
theorem hg189 : HG Tryz.prog G189 := (hg_cons h79 (hg_cons h227 (hg_cons h237 hg_nil)))
theorem e189 (L : Lp) (R : Option Res → Prop) (a b : List (Elem ks)) (c : List (Elem kl)) (i : Int) (t : ByteArray) : (bodyP E0 G189 L Tryz.f189 [.agg [.rsl ks a, .rsl ks b, .rsl kl c], .val (.int .i64 i), .val (.string t)] [] R) = (
    br (smD a b c) (br (!dkOk a b c) (R (some { av := AV.tup [AV.agg [AV.ows 0, AV.ows 1, AV.ows 2], vB false], obs := [AO.row ks [], AO.row ks [], AO.row kl []], outs := [] })) (br (decide ((↑c.length : Int) > 598)) (br (smD a b c) (R (some { av := AV.tup [AV.agg [AV.ows 0, AV.ows 1, AV.ows 2], vB false], obs := [AO.row ks a, AO.row ks b, AO.row kl c], outs := [] })) False) (br (dwG a b c 0 i t 600) (br (dwG a b (c ++ [(0, i, t, ())]) 1 i t 600) (R (some { av := AV.tup [AV.agg [AV.ows 0, AV.ows 1, AV.ows 2], vB true], obs := [AO.row ks a, AO.row ks b, AO.row kl (c ++ [(0, i, t, ())] ++ [(1, i, t, ())])], outs := [] })) False) False))) False) := by kernel_rfl
theorem h189 : G1Ok Tryz.prog 189 g189 := by
  intro args obs k h
  unfold g189 at h
  split at h
  · rename_i k a b c i t
    obtain ⟨hp, h⟩ := br_and h
    obtain ⟨h1, h2, h3, h4, h5⟩ := dwG_sm hp
    obtain ⟨n1, n2⟩ := dwG_next hp
    refine ⟨_, ctr_fn ok0 hg189 Tryz.func189 (by kernel_rfl) (by kernel_rfl) (by kernel_rfl) fun C => ?_, h⟩
    rw [e189]
    exact br_t h1 (br_f (by rw [h2]; rfl) (br_no (by omega) (br_t n1 (br_t n2 rfl))))
  · exact h.elim
noncomputable def G187 : Gk := gk []
theorem hg187 : HG Tryz.prog G187 := hg_nil
theorem e187 (L : Lp) (R : Option Res → Prop) (n : Int) : (bodyP E0 G187 L Tryz.f187 [.val (.int .i64 n)] [] R) = (
    br (decide (n < 1)) (R (some { av := AV.agg [AV.ows 0, AV.ows 1, AV.ows 2], obs := [AO.row ks [], AO.row ks [], AO.row kl []], outs := [] })) (br (decide (n > 120)) (R (some { av := AV.agg [AV.ows 0, AV.ows 1, AV.ows 2], obs := [AO.row ks [], AO.row ks [], AO.row kl []], outs := [] })) (br (decide (0 ≤ n ∧ n ≤ n ∧ 16 * n ≤ 281474976710656)) (br (decide (0 ≤ n ∧ n ≤ n ∧ 16 * n ≤ 281474976710656)) (R (some { av := AV.agg [AV.ows 0, AV.ows 1, AV.ows 2], obs := [AO.row ks (List.replicate n.toNat (edflt ks)), AO.row ks (List.replicate n.toNat (edflt ks)), AO.row kl []], outs := [] })) False) False))) := by kernel_rfl
theorem h187 : G1Ok Tryz.prog 187 g187 := by
  intro args obs k h
  unfold g187 at h
  split at h
  · rename_i k n
    obtain ⟨hn, h⟩ := brd h
    refine ⟨_, ctr_fn ok0 hg187 Tryz.func187 (by kernel_rfl) (by kernel_rfl) (by kernel_rfl) fun C => ?_, h⟩
    rw [e187]
    exact br_no (by omega) (br_no (by omega) (br_yes (by omega) (br_yes (by omega) rfl)))
  · exact h.elim
end Go.Proofs.YtkjnijddbiconaaGreatDoor.Ev
