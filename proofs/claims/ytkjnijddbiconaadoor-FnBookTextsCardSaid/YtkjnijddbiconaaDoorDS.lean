/- What all texts share: sizes that fit, small laws. -/
import Derived.Test.YtkjnijddbiconaaDoorTt
import Derived.Test.YtkjnijddbiconaaDoorEvB
import Derived.Test.YtkjnijddbiconaaDoorEvC
namespace Go.Proofs.YtkjnijddbiconaaDoor.Ev
open Go
set_option linter.unusedVariables false
set_option linter.unusedSimpArgs false
set_option maxRecDepth 100000
abbrev ks : List CK := [.str]
abbrev k3 : List CK := [.int .i64, .int .i64, .int .i64]
abbrev ki : List CK := [.int .i64]
abbrev ku : List CK := [.int .u8]
def Ef : Env := ⟨tt, 1000000 :: E0.io, E0.eqs, .skip, []⟩
def at1 (xs : List (Elem ks)) (i : Nat) : ByteArray := (xs.getD i (edflt ks)).1
def g86 : G1
  | [.val (.int .i64 a), .val (.int .i64 b), .val (.int .i64 c)], [], k => k ⟨.val (.bool (decide (b ≤ a) && decide (a ≤ c))), [], []⟩
  | _, _, _ => False
theorem okf : Ok Tryd.prog Ef := ⟨ttOK, eqsOK, by kernel_rfl⟩
theorem byteAt_lt (t : ByteArray) (i : Int) : 0 ≤ byteAt t i ∧ byteAt t i ≤ 255 := by
  unfold byteAt
  split
  · rename_i h
    have := (t[i.toNat]'h).toNat_lt
    omega
  · omega
theorem strEq_self (t : ByteArray) : strEq t t = true := by simp [strEq]
theorem brb2 {p q : Bool} {t : Prop} (h : br (p && q) t False) : p = true ∧ q = true ∧ t := by
  obtain ⟨h1, h2⟩ := br_and h
  rw [Bool.and_eq_true] at h1
  exact ⟨h1.1, h1.2, h2⟩
theorem quiet_below {w w' : World} (h : RowKit.Below w.heap.size w w') : Quiet w w' := by
  refine ⟨⟨h.os, h.tape, h.output, h.size⟩, fun b x hb => ?_⟩
  have hlt : b < w.heap.size := (Array.getElem?_eq_some_iff.1 hb).1
  rw [h.block b hlt, hb]
noncomputable def G86 : Gk := gk []
theorem hg86 : HG Tryd.prog G86 := hg_nil
theorem e86 (L : Lp) (R : Option Res → Prop) (a b c : Int) : (bodyP E0 G86 L Tryd.f86 [.val (.int .i64 a), .val (.int .i64 b), .val (.int .i64 c)] [] R) = (
    br (decide (b ≤ a)) (R (some { av := vB (decide (a ≤ c)), obs := [], outs := [] })) (R (some { av := vB false, obs := [], outs := [] }))) := by kernel_rfl
theorem h86 : G1Ok Tryd.prog 86 g86 := by
  intro args obs k h
  unfold g86 at h
  split at h
  · rename_i k a b c
    refine ⟨_, ctr_fn ok0 hg86 Tryd.func86 (by kernel_rfl) (by kernel_rfl) (by kernel_rfl) fun C => ?_, h⟩
    rw [e86]
    refine br_intro (fun h => ?_) (fun h => ?_) <;> simp [h]
  · exact h.elim
end Go.Proofs.YtkjnijddbiconaaDoor.Ev
