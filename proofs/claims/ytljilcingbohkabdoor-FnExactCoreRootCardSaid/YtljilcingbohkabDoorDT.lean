/- Numbers as texts, by the table of powers; sealed texts. -/
import Derived.Test.YtljilcingbohkabDoorD1
import Derived.Test.YtljilcingbohkabDoorShelf
namespace Go.Proofs.YtljilcingbohkabDoor.Ev
open Go
set_option linter.unusedVariables false
set_option linter.unusedSimpArgs false
set_option maxRecDepth 100000
theorem quiet_grow (w : World) (k : Nat) (os : Array Obj) : Quiet w (Sort.grow (w.drewN k) os) := by
  refine ⟨⟨rfl, rfl, rfl, ?_⟩, fun b x hb => ?_⟩
  · show w.heap.size ≤ (w.heap ++ os).size
    rw [Array.size_append]
    omega
  · show (w.heap ++ os)[b]? = some x
    have hlt : b < w.heap.size := (Array.getElem?_eq_some_iff.1 hb).1
    rw [Array.getElem?_append_left hlt, hb]
theorem quiet_drew (w : World) (k : Nat) : Quiet w (w.drewN k) := ⟨⟨rfl, rfl, rfl, Nat.le_refl _⟩, fun b x hb => hb⟩
theorem tabPow_lib : tabPow = Lib.pow10Tab := by decide
theorem h83 : G1Ok Tryd.prog 83 g83 := by
  intro args obs k h
  unfold g83 at h
  split at h
  · rename_i k n
    obtain ⟨hn, h⟩ := br_and h
    have hn' := of_decide_eq_true hn
    refine ⟨_, ctr_plain (us := [.int .i64 n]) (v := .string (dec n)) Tryd.func83 (by kernel_rfl) (by kernel_rfl) (fun w ht => ?_), h⟩
    refine (Tryd.strconv_Itoa n hn'.1 hn'.2 w (by have := ht.1; rw [tabPow_lib] at this; exact this)).mono fun e w' he => ?_
    obtain ⟨rfl, q, os, rfl⟩ := he
    exact ⟨by rw [dec_lib], quiet_grow w q os⟩
  · exact h.elim
noncomputable def E142 : Env := E0.of Tryd.f142
noncomputable def G142 : Gk := gk [(178, g177), (83, g83)]
noncomputable def lp142 (n : Nat) : Code := (loopOf n (codeOf Tryd.f142)).getD .skip
noncomputable def ct142 (L : Lp) (R : Option Res → Prop) (n : Nat) : Kt := contOf E142 G142 L n (codeOf Tryd.f142) (endK E142 Tryd.f142.results.toList R)
noncomputable def rk142 (L : Lp) (R : Option Res → Prop) (n : Nat) (N : St → Prop) : Kt := rk (jof E142 (lp142 n)) N (ct142 L R n)
noncomputable def rkn142 (L : Lp) (R : Option Res → Prop) (n : Nat) (N : St → Prop) (m : Nat) (N2 : St → Prop) : Kt := rk (jof E142 (lp142 m)) N2 (contOf E142 G142 L m (lp142 n) (rk142 L R n N))
noncomputable def LOOPN142 (L : Lp) (R : Option Res → Prop) (n : Nat) (N : St → Prop) (m : Nat) (st : St) : Prop := L (lp142 m) st (contOf E142 G142 L m (lp142 n) (rk142 L R n N))
noncomputable def LOOP142 (L : Lp) (R : Option Res → Prop) (n : Nat) (st : St) : Prop := L (lp142 n) st (ct142 L R n)
theorem hg142 : HG Tryd.prog G142 := (hg_cons h178 (hg_cons h83 hg_nil))
theorem okf142 : Ok Tryd.prog E142 := ok0.of Tryd.f142
theorem e142 (L : Lp) (R : Option Res → Prop) (t : ByteArray) : (bodyP E0 G142 L Tryd.f142 [.val (.string t)] [] R) = (
    br (decide ((↑t.size : Int) > 400)) (R (some { av := vS { data := #[] }, obs := [], outs := [] })) (br (decide (t.size ≤ 4611686018427387904)) (br (inN (sumN t)) (br (decide ((dec (sumN t)).size + 1 ≤ 9223372036854775807)) (br (decide ((dec (sumN t) ++ { data := #[58] }).size + t.size ≤ 9223372036854775807)) (R (some { av := vS (dec (sumN t) ++ { data := #[58] } ++ t), obs := [], outs := [] })) False) False) False) False)) := by kernel_rfl
theorem h142 : G1Ok Tryd.prog 142 g141 := by
  intro args obs k h
  unfold g141 at h
  split at h
  · rename_i k t
    obtain ⟨hs, h⟩ := br_and h
    refine ⟨_, ctr_fn ok0 hg142 Tryd.func142 (by kernel_rfl) (by kernel_rfl) (by kernel_rfl) fun C => ?_, h⟩
    rw [e142]
    refine br_intro (fun h1 => ?_) (fun h1 => br_t hs (br_t ?_ (br_yes ?_ (br_yes ?_ ?_))))
    · show _ = _
      unfold sealT
      rw [h1]
      rfl
    · have := sumN_lt t
      exact inN_of (by omega) (by omega)
    · have := sumN_lt t
      have := dec_size (n := sumN t) (by omega) (by omega)
      omega
    · have := sumN_lt t
      have := dec_size (n := sumN t) (by omega) (by omega)
      have h1 := of_decide_eq_false h1
      rw [ByteArray.size_append]
      show (dec (sumN t)).size + 1 + t.size ≤ _
      omega
    · show _ = _
      unfold sealT
      rw [h1]
  · exact h.elim
end Go.Proofs.YtljilcingbohkabDoor.Ev
