/- What all texts share: sizes that fit, small laws. -/
import Derived.Test.YtljilcingbohkabDoorTt
import Derived.Test.YtljilcingbohkabDoorEvB
import Derived.Test.YtljilcingbohkabDoorEvC
namespace Go.Proofs.YtljilcingbohkabDoor.Ev
open Go
set_option linter.unusedVariables false
set_option linter.unusedSimpArgs false
set_option maxRecDepth 100000
abbrev ks : List CK := [.str]
abbrev k3 : List CK := [.int .i64, .int .i64, .int .i64]
abbrev ki : List CK := [.int .i64]
def Ef : Env := ⟨tt, 1000000 :: E0.io, E0.eqs, .skip, []⟩
def at1 (xs : List (Elem ks)) (i : Nat) : ByteArray := (xs.getD i (edflt ks)).1
def inL (l : Int) : Bool := decide (0 ≤ l ∧ l ≤ 1048576)
def inS (a : ByteArray) : Bool := decide (a.size ≤ 9223372036854775807)
def g62 : G1
  | [.val (.int .i64 a), .val (.int .i64 b), .val (.int .i64 c)], [], k => k ⟨.val (.bool (decide (b ≤ a) && decide (a ≤ c))), [], []⟩
  | _, _, _ => False
theorem okf : Ok Tryd.prog Ef := ⟨ttOK, eqsOK, by kernel_rfl⟩
theorem byteAt_lt (t : ByteArray) (i : Int) : 0 ≤ byteAt t i ∧ byteAt t i ≤ 255 := by
  unfold byteAt
  split
  · rename_i h
    have := (t[i.toNat]'h).toNat_lt
    omega
  · omega
theorem strEq_self (t : ByteArray) : strEq t t = true := by simp [strEq]
theorem brb2 {p q : Bool} {t : Prop} (h : br (p && q) t False) : p = true ∧ q = true ∧ t := by
  obtain ⟨h1, h2⟩ := br_and h
  rw [Bool.and_eq_true] at h1
  exact ⟨h1.1, h1.2, h2⟩
theorem quiet_below {w w' : World} (h : RowKit.Below w.heap.size w w') : Quiet w w' := by
  refine ⟨⟨h.os, h.tape, h.output, h.size⟩, fun b x hb => ?_⟩
  have hlt : b < w.heap.size := (Array.getElem?_eq_some_iff.1 hb).1
  rw [h.block b hlt, hb]
noncomputable def E62 : Env := E0.of Tryd.f62
noncomputable def G62 : Gk := gk []
noncomputable def lp62 (n : Nat) : Code := (loopOf n (codeOf Tryd.f62)).getD .skip
noncomputable def ct62 (L : Lp) (R : Option Res → Prop) (n : Nat) : Kt := contOf E62 G62 L n (codeOf Tryd.f62) (endK E62 Tryd.f62.results.toList R)
noncomputable def rk62 (L : Lp) (R : Option Res → Prop) (n : Nat) (N : St → Prop) : Kt := rk (jof E62 (lp62 n)) N (ct62 L R n)
noncomputable def rkn62 (L : Lp) (R : Option Res → Prop) (n : Nat) (N : St → Prop) (m : Nat) (N2 : St → Prop) : Kt := rk (jof E62 (lp62 m)) N2 (contOf E62 G62 L m (lp62 n) (rk62 L R n N))
noncomputable def LOOPN62 (L : Lp) (R : Option Res → Prop) (n : Nat) (N : St → Prop) (m : Nat) (st : St) : Prop := L (lp62 m) st (contOf E62 G62 L m (lp62 n) (rk62 L R n N))
noncomputable def LOOP62 (L : Lp) (R : Option Res → Prop) (n : Nat) (st : St) : Prop := L (lp62 n) st (ct62 L R n)
theorem hg62 : HG Tryd.prog G62 := hg_nil
theorem okf62 : Ok Tryd.prog E62 := ok0.of Tryd.f62
theorem e62 (L : Lp) (R : Option Res → Prop) (a b c : Int) : (bodyP E0 G62 L Tryd.f62 [.val (.int .i64 a), .val (.int .i64 b), .val (.int .i64 c)] [] R) = (
    br (decide (b ≤ a)) (R (some { av := vB (decide (a ≤ c)), obs := [], outs := [] })) (R (some { av := vB false, obs := [], outs := [] }))) := by kernel_rfl
theorem h62 : G1Ok Tryd.prog 62 g62 := by
  intro args obs k h
  unfold g62 at h
  split at h
  · rename_i k a b c
    refine ⟨_, ctr_fn ok0 hg62 Tryd.func62 (by kernel_rfl) (by kernel_rfl) (by kernel_rfl) fun C => ?_, h⟩
    rw [e62]
    refine br_intro (fun h => ?_) (fun h => ?_) <;> simp [h]
  · exact h.elim
end Go.Proofs.YtljilcingbohkabDoor.Ev
