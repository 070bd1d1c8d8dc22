/- Texts of a disk. -/
import Derived.Test.YtkjnijddbiconaaGreatDoorK2
namespace Go.Proofs.YtkjnijddbiconaaGreatDoor.Ev
open Go
set_option linter.unusedVariables false
set_option linter.unusedSimpArgs false
set_option maxRecDepth 100000
noncomputable def E123 : Env := E0.of Tryz.f123
noncomputable def G123 : Gk := gk []
noncomputable def lp123 (n : Nat) : Code := (loopOf n (codeOf Tryz.f123)).getD .skip
noncomputable def ct123 (L : Lp) (R : Option Res → Prop) (n : Nat) : Kt := contOf E123 G123 L n (codeOf Tryz.f123) (endK E123 Tryz.f123.results.toList R)
noncomputable def rk123 (L : Lp) (R : Option Res → Prop) (n : Nat) (N : St → Prop) : Kt := rk (jof E123 (lp123 n)) N (ct123 L R n)
noncomputable def LOOP123 (L : Lp) (R : Option Res → Prop) (n : Nat) (st : St) : Prop := L (lp123 n) st (ct123 L R n)
theorem hg123 : HG Tryz.prog G123 := hg_nil
theorem okf123 : Ok Tryz.prog E123 := ok0.of Tryz.f123
theorem e123 (L : Lp) (R : Option Res → Prop) (a b : List (Elem ks)) (c : List (Elem kl)) (s i : Int) : (bodyP E0 G123 L Tryz.f123 [.agg [.rsl ks a, .rsl ks b, .rsl kl c], .val (.int .i64 s), .val (.int .i64 i)] [] R) = (
    LOOP123 L R 2 { tm := [AV.agg [AV.rsl ks a, AV.rsl ks b, AV.rsl kl c], vI s, vI i, AV.ptr 0 0, vU, vU, vS { data := #[] }, vI (IntKind.i64.wrap ((↑c.length : Int) - 1)), vJ, vJ, vJ, vJ, vJ, vJ, vJ, vJ, vJ, vJ, vJ, vJ, vJ, vJ, vJ, vJ, vJ, vJ, vJ, vJ, vJ, vJ, vJ, vJ, vJ, vJ, vU, vU, vU, vU, vU, vU, vU], ob := [(0, AO.box [AV.rsl ks a, AV.rsl ks b, AV.rsl kl c])], nx := 1000000, ps := [] }) := by kernel_rfl
def st123 (a b : List (Elem ks)) (c : List (Elem kl)) (s i j : Int) : St :=  ⟨[AV.agg [AV.rsl ks a, AV.rsl ks b, AV.rsl kl c], vI s, vI i, AV.ptr 0 0, vU, vU, vS { data := #[] }, .val (.int .i64 j), vJ, vJ, vJ, vJ, vJ, vJ, vJ, vJ, vJ, vJ, vJ, vJ, vJ, vJ, vJ, vJ, vJ, vJ, vJ, vJ, vJ, vJ, vJ, vJ, vJ, vJ, vU, vU, vU, vU, vU, vU, vU], [(0, AO.box [AV.rsl ks a, AV.rsl ks b, AV.rsl kl c])], 1000000, []⟩
theorem b123 (L : Lp) (R : Option Res → Prop) (N : St → Prop) (a b : List (Elem ks)) (c : List (Elem kl)) (s i j : Int) : (evP E123 G123 L (lp123 2) (st123 a b c s i j) (rk123 L R 2 N)) = (
    br (decide (j ≥ 0)) (br (decide (0 ≤ j ∧ j < (↑c.length : Int))) (br ((c.getD j.toNat (edflt kl)).fst == s) (br ((c.getD j.toNat (edflt kl)).snd.fst == i) (R (some { av := vS (c.getD j.toNat (edflt kl)).snd.snd.fst, obs := [], outs := [] })) (N { tm := [AV.agg [AV.rsl ks a, AV.rsl ks b, AV.rsl kl c], vI s, vI i, AV.ptr 0 0, vU, vU, vS { data := #[] }, vI (IntKind.i64.wrap (j - 1)), vJ, vJ, vJ, vJ, vJ, vJ, vJ, vJ, vJ, vJ, vJ, vJ, vJ, vJ, vJ, vJ, vJ, vJ, vJ, vJ, vJ, vJ, vJ, vJ, vJ, vJ, vU, vU, vU, vU, vU, vU, vU], ob := [(0, AO.box [AV.rsl ks a, AV.rsl ks b, AV.rsl kl c])], nx := 1000000, ps := [] })) (N { tm := [AV.agg [AV.rsl ks a, AV.rsl ks b, AV.rsl kl c], vI s, vI i, AV.ptr 0 0, vU, vU, vS { data := #[] }, vI (IntKind.i64.wrap (j - 1)), vJ, vJ, vJ, vJ, vJ, vJ, vJ, vJ, vJ, vJ, vJ, vJ, vJ, vJ, vJ, vJ, vJ, vJ, vJ, vJ, vJ, vJ, vJ, vJ, vJ, vJ, vU, vU, vU, vU, vU, vU, vU], ob := [(0, AO.box [AV.rsl ks a, AV.rsl ks b, AV.rsl kl c])], nx := 1000000, ps := [] })) False) (br (s == 0) (br (decide (0 ≤ i ∧ i < (↑a.length : Int))) (R (some { av := vS (a.getD i.toNat (edflt ks)).fst, obs := [], outs := [] })) False) (br (s == 1) (br (decide (0 ≤ i ∧ i < (↑b.length : Int))) (R (some { av := vS (b.getD i.toNat (edflt ks)).fst, obs := [], outs := [] })) False) False))) := by kernel_rfl
theorem h123 : G1Ok Tryz.prog 123 g150 := by
  intro args obs k h
  unfold g150 at h
  split at h
  · rename_i k a b c s i
    obtain ⟨hs, hq, h⟩ := brb2 h
    rw [Bool.and_eq_true, decide_eq_true_eq, decide_eq_true_eq] at hq
    have hs' := hs
    simp only [secOk, Bool.and_eq_true, decide_eq_true_eq] at hs'
    refine ⟨_, ctr_fn ok0 hg123 Tryz.func123 (by kernel_rfl) (by kernel_rfl) (by kernel_rfl) fun C => ?_, h⟩
    rw [e123]
    refine loopDown okf123 hg123 (fun j => st123 a b c s i j) c.length (fun q => lkL c s i c.length = lkL c s i q) (fun N h0 => ?_) (fun N q hq' hI next => ?_) _ (wrap_id (by omega) (by omega)) rfl
    · show evP E123 G123 _ (lp123 2) (st123 a b c s i (-1)) (rk123 _ _ 2 _)
      rw [b123]
      have e : rdD a b c s i = sideAt a b s i := by
        unfold rdD
        rw [h0]
        rfl
      refine br_no (by omega) (br_intro (fun h1 => br_yes ⟨by omega, by omega⟩ ?_) (fun h1 => br_intro (fun h2 => br_yes ⟨by omega, by omega⟩ ?_) (fun h2 => ?_)))
      · show _ = _
        rw [e]
        unfold sideAt
        rw [h1]
      · show _ = _
        rw [e]
        unfold sideAt
        rw [h1]
      · simp at h1 h2
        omega
    · show evP E123 G123 _ (lp123 2) (st123 a b c s i q) (rk123 _ _ 2 _)
      rw [b123, Int.toNat_natCast, wrap_id (n := (q : Int) - 1) (by omega) (by omega)]
      have miss : hitL (c.getD q (edflt kl)) s i = false → N (st123 a b c s i ((q : Int) - 1)) := fun h1 => next (by
        rw [hI]
        show (match hitL (c.getD q (edflt kl)) s i with | true => some (c.getD q (edflt kl)).2.2.1 | false => lkL c s i q) = _
        rw [h1])
      refine br_yes (by omega) (br_yes ⟨by omega, by omega⟩ (br_intro (fun h1 => id (br_intro (fun h2 => id ?_) (fun h2 => miss ?_))) (fun h1 => miss ?_)))
      · show _ = _
        have : lkL c s i (q + 1) = some (c.getD q (edflt kl)).2.2.1 := by
          show (match hitL (c.getD q (edflt kl)) s i with | true => some (c.getD q (edflt kl)).2.2.1 | false => lkL c s i q) = _
          unfold hitL
          rw [h1, h2]
          rfl
        unfold rdD
        rw [hI, this]
      · unfold hitL
        rw [h2, Bool.and_false]
      · unfold hitL
        rw [h1]
        rfl
  · exact h.elim
end Go.Proofs.YtkjnijddbiconaaGreatDoor.Ev
