/- What all texts share: sizes that fit, small laws. -/
import Derived.Test.YtljilcingbohkaaDoorTt
import Derived.Test.YtljilcingbohkaaDoorEv25
import Derived.Test.YtljilcingbohkaaDoorEv26
import Derived.Test.YtljilcingbohkaaDoorEv28
namespace Go.Proofs.YtljilcingbohkaaDoor.Ev
open Go
set_option linter.unusedVariables false
set_option linter.unusedSimpArgs false
set_option maxRecDepth 100000
abbrev ks : List CK := [.str]
abbrev k3 : List CK := [.int .i64, .int .i64, .int .i64]
abbrev ki : List CK := [.int .i64]
def Ef : Env := ⟨tt, 1000000 :: E0.io, E0.eqs, .skip, []⟩
def inL (l : Int) : Bool := decide (0 ≤ l ∧ l ≤ 1048576)
def inS (a : ByteArray) : Bool := decide (a.size ≤ 9223372036854775807)
def g47 : G1
  | [.val (.int .i64 a), .val (.int .i64 b), .val (.int .i64 c)], [], k => k ⟨.val (.bool (decide (b ≤ a) && decide (a ≤ c))), [], []⟩
  | _, _, _ => False
theorem okf : Ok Tryd.prog Ef := ⟨ttOK, eqsOK, by kernel_rfl⟩
theorem byteAt_lt (t : ByteArray) (i : Int) : 0 ≤ byteAt t i ∧ byteAt t i ≤ 255 := by
  unfold byteAt
  split
  · rename_i h
    have := (t[i.toNat]'h).toNat_lt
    omega
  · omega
theorem strEq_self (t : ByteArray) : strEq t t = true := by simp [strEq]
theorem brb2 {p q : Bool} {t : Prop} (h : br (p && q) t False) : p = true ∧ q = true ∧ t := by
  obtain ⟨h1, h2⟩ := br_and h
  rw [Bool.and_eq_true] at h1
  exact ⟨h1.1, h1.2, h2⟩
theorem quiet_below {w w' : World} (h : RowKit.Below w.heap.size w w') : Quiet w w' := by
  refine ⟨⟨h.os, h.tape, h.output, h.size⟩, fun b x hb => ?_⟩
  have hlt : b < w.heap.size := (Array.getElem?_eq_some_iff.1 hb).1
  rw [h.block b hlt, hb]
noncomputable def E47 : Env := E0.of Tryd.f47
noncomputable def G47 : Gk := gk []
noncomputable def lp47 (n : Nat) : Code := (loopOf n (codeOf Tryd.f47)).getD .skip
noncomputable def ct47 (L : Lp) (R : Option Res → Prop) (n : Nat) : Kt := contOf E47 G47 L n (codeOf Tryd.f47) (endK E47 Tryd.f47.results.toList R)
noncomputable def rk47 (L : Lp) (R : Option Res → Prop) (n : Nat) (N : St → Prop) : Kt := rk (jof E47 (lp47 n)) N (ct47 L R n)
noncomputable def LOOP47 (L : Lp) (R : Option Res → Prop) (n : Nat) (st : St) : Prop := L (lp47 n) st (ct47 L R n)
theorem hg47 : HG Tryd.prog G47 := hg_nil
theorem okf47 : Ok Tryd.prog E47 := ok0.of Tryd.f47
theorem e47 (L : Lp) (R : Option Res → Prop) (a b c : Int) : (bodyP E0 G47 L Tryd.f47 [.val (.int .i64 a), .val (.int .i64 b), .val (.int .i64 c)] [] R) = (
    br (decide (b ≤ a)) (R (some { av := vB (decide (a ≤ c)), obs := [], outs := [] })) (R (some { av := vB false, obs := [], outs := [] }))) := by kernel_rfl
theorem h47 : G1Ok Tryd.prog 47 g47 := by
  intro args obs k h
  unfold g47 at h
  split at h
  · rename_i k a b c
    refine ⟨_, ctr_fn ok0 hg47 Tryd.func47 (by kernel_rfl) (by kernel_rfl) (by kernel_rfl) fun C => ?_, h⟩
    rw [e47]
    refine br_intro (fun h => ?_) (fun h => ?_) <;> simp [h]
  · exact h.elim
end Go.Proofs.YtljilcingbohkaaDoor.Ev
