/- Numbers as texts, by the table of powers; sealed texts. -/
import Derived.Test.YtkjnijddbiconaaGreatDoorD1
import Derived.Test.YtkjnijddbiconaaGreatDoorShelf
namespace Go.Proofs.YtkjnijddbiconaaGreatDoor.Ev
open Go
set_option linter.unusedVariables false
set_option linter.unusedSimpArgs false
set_option maxRecDepth 100000
theorem quiet_grow (w : World) (k : Nat) (os : Array Obj) : Quiet w (Sort.grow (w.drewN k) os) := by
  refine ⟨⟨rfl, rfl, rfl, ?_⟩, fun b x hb => ?_⟩
  · show w.heap.size ≤ (w.heap ++ os).size
    rw [Array.size_append]
    omega
  · show (w.heap ++ os)[b]? = some x
    have hlt : b < w.heap.size := (Array.getElem?_eq_some_iff.1 hb).1
    rw [Array.getElem?_append_left hlt, hb]
theorem tabPow_lib : tabPow = Lib.pow10Tab := by decide
theorem h177 : G1Ok Tryz.prog 177 g177 := by
  intro args obs k h
  unfold g177 at h
  split at h
  · rename_i k n
    obtain ⟨hn, h⟩ := br_and h
    have hn' := of_decide_eq_true hn
    refine ⟨_, ctr_plain (us := [.int .i64 n]) (v := .string (dec n)) Tryz.func177 (by kernel_rfl) (by kernel_rfl) (fun w ht => ?_), h⟩
    refine (Tryz.strconv_Itoa n hn'.1 hn'.2 w (by have := ht.1; rw [tabPow_lib] at this; exact this)).mono fun e w' he => ?_
    obtain ⟨rfl, q, os, rfl⟩ := he
    exact ⟨by rw [dec_lib], quiet_grow w q os⟩
  · exact h.elim
end Go.Proofs.YtkjnijddbiconaaGreatDoor.Ev
