/- What all texts share: sizes that fit, small laws. -/
import Derived.Test.YtkjnijddbiconaaTt
import Derived.Test.YtkjnijddbiconaaEvB
import Derived.Test.YtkjnijddbiconaaEvC
namespace Go.Proofs.Ytkjnijddbiconaa.Ev
open Go
set_option linter.unusedVariables false
set_option linter.unusedSimpArgs false
set_option maxRecDepth 100000
abbrev ks : List CK := [.str]
abbrev k3 : List CK := [.int .i64, .int .i64, .int .i64]
abbrev ki : List CK := [.int .i64]
abbrev ku : List CK := [.int .u8]
def Ef : Env := ⟨tt, 1000000 :: E0.io, E0.eqs, .skip, []⟩
def at1 (xs : List (Elem ks)) (i : Nat) : ByteArray := (xs.getD i (edflt ks)).1
def inL (l : Int) : Bool := decide (0 ≤ l ∧ l ≤ 1048576)
def inS (a : ByteArray) : Bool := decide (a.size ≤ 9223372036854775807)
def g42 : G1
  | [.val (.int .i64 a), .val (.int .i64 b), .val (.int .i64 c)], [], k => k ⟨.val (.bool (decide (b ≤ a) && decide (a ≤ c))), [], []⟩
  | _, _, _ => False
theorem okf : Ok Try.prog Ef := ⟨ttOK, eqsOK, by kernel_rfl⟩
theorem byteAt_lt (t : ByteArray) (i : Int) : 0 ≤ byteAt t i ∧ byteAt t i ≤ 255 := by
  unfold byteAt
  split
  · rename_i h
    have := (t[i.toNat]'h).toNat_lt
    omega
  · omega
theorem strEq_self (t : ByteArray) : strEq t t = true := by simp [strEq]
theorem brb2 {p q : Bool} {t : Prop} (h : br (p && q) t False) : p = true ∧ q = true ∧ t := by
  obtain ⟨h1, h2⟩ := br_and h
  rw [Bool.and_eq_true] at h1
  exact ⟨h1.1, h1.2, h2⟩
theorem quiet_below {w w' : World} (h : RowKit.Below w.heap.size w w') : Quiet w w' := by
  refine ⟨⟨h.os, h.tape, h.output, h.size⟩, fun b x hb => ?_⟩
  have hlt : b < w.heap.size := (Array.getElem?_eq_some_iff.1 hb).1
  rw [h.block b hlt, hb]
noncomputable def E42 : Env := E0.of Try.f42
noncomputable def G42 : Gk := gk []
noncomputable def lp42 (n : Nat) : Code := (loopOf n (codeOf Try.f42)).getD .skip
noncomputable def ct42 (L : Lp) (R : Option Res → Prop) (n : Nat) : Kt := contOf E42 G42 L n (codeOf Try.f42) (endK E42 Try.f42.results.toList R)
noncomputable def rk42 (L : Lp) (R : Option Res → Prop) (n : Nat) (N : St → Prop) : Kt := rk (jof E42 (lp42 n)) N (ct42 L R n)
noncomputable def rkn42 (L : Lp) (R : Option Res → Prop) (n : Nat) (N : St → Prop) (m : Nat) (N2 : St → Prop) : Kt := rk (jof E42 (lp42 m)) N2 (contOf E42 G42 L m (lp42 n) (rk42 L R n N))
noncomputable def LOOPN42 (L : Lp) (R : Option Res → Prop) (n : Nat) (N : St → Prop) (m : Nat) (st : St) : Prop := L (lp42 m) st (contOf E42 G42 L m (lp42 n) (rk42 L R n N))
noncomputable def LOOP42 (L : Lp) (R : Option Res → Prop) (n : Nat) (st : St) : Prop := L (lp42 n) st (ct42 L R n)
theorem hg42 : HG Try.prog G42 := hg_nil
theorem okf42 : Ok Try.prog E42 := ok0.of Try.f42
theorem e42 (L : Lp) (R : Option Res → Prop) (a b c : Int) : (bodyP E0 G42 L Try.f42 [.val (.int .i64 a), .val (.int .i64 b), .val (.int .i64 c)] [] R) = (
    br (decide (b ≤ a)) (R (some { av := vB (decide (a ≤ c)), obs := [], outs := [] })) (R (some { av := vB false, obs := [], outs := [] }))) := by kernel_rfl
theorem h42 : G1Ok Try.prog 42 g42 := by
  intro args obs k h
  unfold g42 at h
  split at h
  · rename_i k a b c
    refine ⟨_, ctr_fn ok0 hg42 Try.func42 (by kernel_rfl) (by kernel_rfl) (by kernel_rfl) fun C => ?_, h⟩
    rw [e42]
    refine br_intro (fun h => ?_) (fun h => ?_) <;> simp [h]
  · exact h.elim
end Go.Proofs.Ytkjnijddbiconaa.Ev
