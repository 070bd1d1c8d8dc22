/- Numbers as texts, by the table of powers; sealed texts. -/
import Derived.Test.YtkjnijddbiconaaDoorD1
import Derived.Test.YtkjnijddbiconaaDoorShelf
namespace Go.Proofs.YtkjnijddbiconaaDoor.Ev
open Go
set_option linter.unusedVariables false
set_option linter.unusedSimpArgs false
set_option maxRecDepth 100000
theorem quiet_grow (w : World) (k : Nat) (os : Array Obj) : Quiet w (Sort.grow (w.drewN k) os) := by
  refine ⟨⟨rfl, rfl, rfl, ?_⟩, fun b x hb => ?_⟩
  · show w.heap.size ≤ (w.heap ++ os).size
    rw [Array.size_append]
    omega
  · show (w.heap ++ os)[b]? = some x
    have hlt : b < w.heap.size := (Array.getElem?_eq_some_iff.1 hb).1
    rw [Array.getElem?_append_left hlt, hb]
theorem tabPow_lib : tabPow = Lib.pow10Tab := by decide
theorem h30 : G1Ok Tryd.prog 30 g30 := by
  intro args obs k h
  unfold g30 at h
  split at h
  · rename_i k n
    obtain ⟨hn, h⟩ := br_and h
    have hn' := of_decide_eq_true hn
    refine ⟨_, ctr_plain (us := [.int .i64 n]) (v := .string (dec n)) Tryd.func30 (by kernel_rfl) (by kernel_rfl) (fun w ht => ?_), h⟩
    refine (Tryd.strconv_Itoa n hn'.1 hn'.2 w (by have := ht.1; rw [tabPow_lib] at this; exact this)).mono fun e w' he => ?_
    obtain ⟨rfl, q, os, rfl⟩ := he
    exact ⟨by rw [dec_lib], quiet_grow w q os⟩
  · exact h.elim
noncomputable def G9 : Gk := gk [(7, g8), (30, g30)]
theorem hg9 : HG Tryd.prog G9 := (hg_cons h7 (hg_cons h30 hg_nil))
theorem e9 (L : Lp) (R : Option Res → Prop) (t : ByteArray) : (bodyP E0 G9 L Tryd.f9 [.val (.string t)] [] R) = (
    br (decide ((↑t.size : Int) > 400)) (R (some { av := vS { data := #[] }, obs := [], outs := [] })) (br (decide (t.size ≤ 4611686018427387904)) (br (inN (sumN t)) (br (decide ((dec (sumN t)).size + 1 ≤ 9223372036854775807)) (br (decide ((dec (sumN t) ++ { data := #[58] }).size + t.size ≤ 9223372036854775807)) (R (some { av := vS (dec (sumN t) ++ { data := #[58] } ++ t), obs := [], outs := [] })) False) False) False) False)) := by kernel_rfl
theorem h9 : G1Ok Tryd.prog 9 g13 := by
  intro args obs k h
  unfold g13 at h
  split at h
  · rename_i k t
    obtain ⟨hs, h⟩ := br_and h
    refine ⟨_, ctr_fn ok0 hg9 Tryd.func9 (by kernel_rfl) (by kernel_rfl) (by kernel_rfl) fun C => ?_, h⟩
    rw [e9]
    refine br_intro (fun h1 => ?_) (fun h1 => br_t hs (br_t ?_ (br_yes ?_ (br_yes ?_ ?_))))
    · show _ = _
      unfold sealT
      rw [h1]
      rfl
    · have := sumN_lt t
      exact inN_of (by omega) (by omega)
    · have := sumN_lt t
      have := dec_size (n := sumN t) (by omega) (by omega)
      omega
    · have := sumN_lt t
      have := dec_size (n := sumN t) (by omega) (by omega)
      have h1 := of_decide_eq_false h1
      rw [ByteArray.size_append]
      show (dec (sumN t)).size + 1 + t.size ≤ _
      omega
    · show _ = _
      unfold sealT
      rw [h1]
  · exact h.elim
end Go.Proofs.YtkjnijddbiconaaDoor.Ev
