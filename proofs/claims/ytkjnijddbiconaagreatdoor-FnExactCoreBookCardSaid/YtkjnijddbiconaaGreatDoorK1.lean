/- Contracts for disks: sizes, copies, equality. -/
import Derived.Test.YtkjnijddbiconaaGreatDoorDP
import Derived.Test.YtkjnijddbiconaaGreatDoorMC
namespace Go.Proofs.YtkjnijddbiconaaGreatDoor.Ev
open Go
set_option linter.unusedVariables false
set_option linter.unusedSimpArgs false
set_option maxRecDepth 100000
abbrev kl : List CK := [.int .i64, .int .i64, .str]
def szT (e : Elem ks) : Nat := e.1.size
def inT (e : Elem ks) : Bool := inS e.1
def szL (e : Elem kl) : Nat := e.2.2.1.size
def inLt (e : Elem kl) : Bool := inS e.2.2.1
theorem inT_of {e : Elem ks} (h : inT e = true) : szT e ≤ 9223372036854775807 := of_decide_eq_true h
def szTs (xs : List (Elem ks)) : Nat := xs.length + (xs.map szT).sum
def inTs (xs : List (Elem ks)) : Bool := decide (xs.length ≤ 9223372036854775807) && xs.all inT
def g146 : G1
  | [.rsl [.str] xs, .val (.int .i64 l)], [], k => br (inTs xs && inL l) (k ⟨.val (.int .i64 (szR l (szTs xs))), [], []⟩) False
  | _, _, _ => False
noncomputable def E146 : Env := E0.of Tryz.f146
noncomputable def G146 : Gk := gk []
noncomputable def lp146 (n : Nat) : Code := (loopOf n (codeOf Tryz.f146)).getD .skip
noncomputable def ct146 (L : Lp) (R : Option Res → Prop) (n : Nat) : Kt := contOf E146 G146 L n (codeOf Tryz.f146) (endK E146 Tryz.f146.results.toList R)
noncomputable def rk146 (L : Lp) (R : Option Res → Prop) (n : Nat) (N : St → Prop) : Kt := rk (jof E146 (lp146 n)) N (ct146 L R n)
noncomputable def rkn146 (L : Lp) (R : Option Res → Prop) (n : Nat) (N : St → Prop) (m : Nat) (N2 : St → Prop) : Kt := rk (jof E146 (lp146 m)) N2 (contOf E146 G146 L m (lp146 n) (rk146 L R n N))
noncomputable def LOOPN146 (L : Lp) (R : Option Res → Prop) (n : Nat) (N : St → Prop) (m : Nat) (st : St) : Prop := L (lp146 m) st (contOf E146 G146 L m (lp146 n) (rk146 L R n N))
noncomputable def LOOP146 (L : Lp) (R : Option Res → Prop) (n : Nat) (st : St) : Prop := L (lp146 n) st (ct146 L R n)
theorem hg146 : HG Tryz.prog G146 := hg_nil
theorem okf146 : Ok Tryz.prog E146 := ok0.of Tryz.f146
theorem e146 (L : Lp) (R : Option Res → Prop) (xs : List (Elem ks)) (l : Int) : (bodyP E0 G146 L Tryz.f146 [.rsl ks xs, .val (.int .i64 l)] [] R) = (
    br (decide (IntKind.i64.wrap (l - (↑xs.length : Int)) < 0)) (R (some { av := vI (-1), obs := [], outs := [] })) (LOOP146 L R 5 { tm := [AV.rsl ks xs, vI (IntKind.i64.wrap (l - (↑xs.length : Int))), vU, vU, vI 0, vI 0, vJ, vJ, vJ, vJ, vJ, vJ, vJ, vJ, vJ, vJ, vJ, vJ, vJ, vJ, vJ, vJ, vJ, vJ, vJ, vJ, vJ, vU], ob := [], nx := 1000000, ps := [] })) := by kernel_rfl
def st146 (xs : List (Elem ks)) (l m i : Int) : St :=  ⟨[AV.rsl ks xs, .val (.int .i64 m), vU, vU, vI 0, .val (.int .i64 i), vJ, vJ, vJ, vJ, vJ, vJ, vJ, vJ, vJ, vJ, vJ, vJ, vJ, vJ, vJ, vJ, vJ, vJ, vJ, vJ, vJ, vU], [], 1000000, []⟩
theorem b146 (L : Lp) (R : Option Res → Prop) (N : St → Prop) (xs : List (Elem ks)) (l m i : Int) : (evP E146 G146 L (lp146 5) (st146 xs l m i) (rk146 L R 5 N)) = (
    br (decide (i < (↑xs.length : Int))) (br (decide (0 ≤ i ∧ i < (↑xs.length : Int))) (br (decide (IntKind.i64.wrap (m - (↑(ByteArray.size (xs.getD i.toNat (edflt ks)).fst) : Int)) < 0)) (R (some { av := vI (-1), obs := [], outs := [] })) (N { tm := [AV.rsl ks xs, vI (IntKind.i64.wrap (m - (↑(ByteArray.size (xs.getD i.toNat (edflt ks)).fst) : Int))), vU, vU, vI 0, vI (IntKind.i64.wrap (i + 1)), vJ, vJ, vJ, vJ, vJ, vJ, vJ, vJ, vJ, vJ, vJ, vJ, vJ, vJ, vJ, vJ, vJ, vJ, vJ, vJ, vJ, vU], ob := [], nx := 1000000, ps := [] })) False) (R (some { av := vI m, obs := [], outs := [] }))) := by kernel_rfl
theorem h146 : G1Ok Tryz.prog 146 g146 := by
  intro args obs k h
  unfold g146 at h
  split at h
  · rename_i k xs l
    obtain ⟨hp, h⟩ := br_and h
    rw [Bool.and_eq_true] at hp
    obtain ⟨hB, hl⟩ := hp
    unfold inTs at hB
    rw [Bool.and_eq_true] at hB
    obtain ⟨hlen, hB⟩ := hB
    simp only [inL, decide_eq_true_eq] at hl hlen
    refine ⟨_, ctr_fn ok0 hg146 Tryz.func146 (by kernel_rfl) (by kernel_rfl) (by kernel_rfl) fun C => ?_, h⟩
    rw [e146]
    have e : szTs xs = xs.length + (xs.map szT).sum := rfl
    have hw0 := wrap_id (n := l - xs.length) (by omega) (by omega)
    refine br_dec (fun h => ?_) (fun h => ?_) <;> rw [hw0] at h
    · show _ = _
      rw [e, szR_neg (by omega)]
    · exact loopSz okf146 hg146 (fun i m => st146 xs l m i) xs (edflt ks) szT inT l (by omega) hl.2 hB (fun N i m hi h0 h1 hw hpr neg pos done => by
        show evP E146 G146 _ (lp146 5) (st146 xs l m i) (rk146 _ _ 5 _)
        rw [b146, hw, Int.toNat_natCast]
        show br _ (br _ (br (decide (IntKind.i64.wrap (m - ((szT (xs.getD i (edflt ks)) : Nat) : Int)) < 0)) _ (N (st146 xs l (IntKind.i64.wrap (m - ((szT (xs.getD i (edflt ks)) : Nat) : Int))) ((i : Int) + 1)))) False) _
        refine br_dec (fun h => br_yes ⟨by omega, h⟩ ?_) (fun h => ?_)
        · have hq : szT (xs.getD i (edflt ks)) ≤ 9223372036854775807 := inT_of (hpr (by omega))
          rw [wrap_id (n := m - ((szT (xs.getD i (edflt ks)) : Nat) : Int)) (by omega) (by omega)]
          refine br_dec (fun h2 => ?_) (fun h2 => ?_)
          · show _ = _
            rw [e, neg (by omega) (by omega)]
          · exact pos (by omega) (by omega)
        · show _ = _
          rw [e, done (by omega)]) _ hw0 (by omega)
  · exact h.elim
def g77 : G1
  | [.agg [.rsl [.str] a, .rsl [.str] b], .val (.int .i64 l)], [], k => br (inTs a && inTs b && inL l) (k ⟨.val (.int .i64 (szR l (szTs a + szTs b))), [], []⟩) False
  | _, _, _ => False
def g147 : G1
  | [.agg [.val (.int .i64 s), .val (.int .i64 a), .val (.string t)], .val (.int .i64 l)], [], k => br (inLt (s, a, t, ()) && inL l) (k ⟨.val (.int .i64 (szR l (szL (s, a, t, ())))), [], []⟩) False
  | _, _, _ => False
noncomputable def E77 : Env := E0.of Tryz.f77
noncomputable def G77 : Gk := gk [(146, g146)]
noncomputable def lp77 (n : Nat) : Code := (loopOf n (codeOf Tryz.f77)).getD .skip
noncomputable def ct77 (L : Lp) (R : Option Res → Prop) (n : Nat) : Kt := contOf E77 G77 L n (codeOf Tryz.f77) (endK E77 Tryz.f77.results.toList R)
noncomputable def rk77 (L : Lp) (R : Option Res → Prop) (n : Nat) (N : St → Prop) : Kt := rk (jof E77 (lp77 n)) N (ct77 L R n)
noncomputable def rkn77 (L : Lp) (R : Option Res → Prop) (n : Nat) (N : St → Prop) (m : Nat) (N2 : St → Prop) : Kt := rk (jof E77 (lp77 m)) N2 (contOf E77 G77 L m (lp77 n) (rk77 L R n N))
noncomputable def LOOPN77 (L : Lp) (R : Option Res → Prop) (n : Nat) (N : St → Prop) (m : Nat) (st : St) : Prop := L (lp77 m) st (contOf E77 G77 L m (lp77 n) (rk77 L R n N))
noncomputable def LOOP77 (L : Lp) (R : Option Res → Prop) (n : Nat) (st : St) : Prop := L (lp77 n) st (ct77 L R n)
theorem hg77 : HG Tryz.prog G77 := (hg_cons h146 hg_nil)
theorem okf77 : Ok Tryz.prog E77 := ok0.of Tryz.f77
theorem e77 (L : Lp) (R : Option Res → Prop) (a b : List (Elem ks)) (l : Int) : (bodyP E0 G77 L Tryz.f77 [.agg [.rsl ks a, .rsl ks b], .val (.int .i64 l)] [] R) = (
    LOOP77 L R 2 { tm := [AV.agg [AV.rsl ks a, AV.rsl ks b], vI l, AV.ptr 0 0, vU, vI 0, vI 0, vJ, vJ, vJ, vJ, vJ, vJ, vJ, vJ, vJ, vJ, vJ, vU], ob := [(0, AO.box [AV.rsl ks a, AV.rsl ks b])], nx := 1000000, ps := [] }) := by kernel_rfl
def st77 (a b : List (Elem ks)) (m i : Int) : St :=  ⟨[AV.agg [AV.rsl ks a, AV.rsl ks b], .val (.int .i64 m), AV.ptr 0 0, vU, vI 0, .val (.int .i64 i), vJ, vJ, vJ, vJ, vJ, vJ, vJ, vJ, vJ, vJ, vJ, vU], [(0, AO.box [AV.rsl ks a, AV.rsl ks b])], 1000000, []⟩
theorem b77_0 (L : Lp) (R : Option Res → Prop) (N : St → Prop) (a b : List (Elem ks)) (m : Int) : (evP E77 G77 L (lp77 2) (st77 a b m 0) (rk77 L R 2 N)) = (
    br (inTs a && inL m) (br (decide (szR m (szTs a) < 0)) (R (some { av := vI (-1), obs := [], outs := [] })) (N { tm := [AV.agg [AV.rsl ks a, AV.rsl ks b], vI (szR m (szTs a)), AV.ptr 0 0, vU, vI 0, vI 1, vJ, vJ, vJ, vJ, vJ, vJ, vJ, vJ, vJ, vJ, vJ, vU], ob := [(0, AO.box [AV.rsl ks a, AV.rsl ks b])], nx := 1000000, ps := [] })) False) := by kernel_rfl
theorem b77_1 (L : Lp) (R : Option Res → Prop) (N : St → Prop) (a b : List (Elem ks)) (m : Int) : (evP E77 G77 L (lp77 2) (st77 a b m 1) (rk77 L R 2 N)) = (
    br (inTs b && inL m) (br (decide (szR m (szTs b) < 0)) (R (some { av := vI (-1), obs := [], outs := [] })) (N { tm := [AV.agg [AV.rsl ks a, AV.rsl ks b], vI (szR m (szTs b)), AV.ptr 0 0, vU, vI 0, vI 2, vJ, vJ, vJ, vJ, vJ, vJ, vJ, vJ, vJ, vJ, vJ, vU], ob := [(0, AO.box [AV.rsl ks a, AV.rsl ks b])], nx := 1000000, ps := [] })) False) := by kernel_rfl
theorem b77_2 (L : Lp) (R : Option Res → Prop) (N : St → Prop) (a b : List (Elem ks)) (m : Int) : (evP E77 G77 L (lp77 2) (st77 a b m 2) (rk77 L R 2 N)) = (
    R (some { av := vI m, obs := [], outs := [] })) := by kernel_rfl
def preT (a b : Nat) : Nat → Nat
  | 0 => 0
  | 1 => a
  | _ => a + b
theorem h77 : G1Ok Tryz.prog 77 g77 := by
  intro args obs k h
  unfold g77 at h
  split at h
  · rename_i k a b l
    obtain ⟨hp, hl, h⟩ := brb2 h
    rw [Bool.and_eq_true] at hp
    simp only [inL, decide_eq_true_eq] at hl
    refine ⟨_, ctr_fn ok0 hg77 Tryz.func77 (by kernel_rfl) (by kernel_rfl) (by kernel_rfl) fun C => ?_, h⟩
    rw [e77]
    refine loopUp okf77 hg77 (fun i m => st77 a b m i) 2 (fun i m => 0 ≤ m ∧ m = l - preT (szTs a) (szTs b) i) (fun N i m hi ⟨h0, h1⟩ next => ?_) l ⟨hl.1, by simp [preT]⟩
    have cs : i = 0 ∨ i = 1 ∨ i = 2 := by omega
    rcases cs with rfl | rfl | rfl
    · show evP E77 G77 _ (lp77 2) (st77 a b m 0) (rk77 _ _ 2 _)
      have h1 : m = l := by simpa [preT] using h1
      subst h1
      rw [b77_0]
      refine br_t (by rw [hp.1]; simpa [inL] using hl) (br_dec (fun h => ?_) (fun h => ?_))
      · show _ = _
        rw [szR_neg (by have := szR_lt0 h; omega)]
      · have := szR_ge0 h
        rw [szR_pos this]
        exact next (by omega) _ ⟨by omega, rfl⟩
    · show evP E77 G77 _ (lp77 2) (st77 a b m 1) (rk77 _ _ 2 _)
      have h1 : m = l - szTs a := h1
      rw [b77_1]
      refine br_t (by rw [hp.2]; simp only [inL, Bool.true_and, decide_eq_true_eq]; omega) (br_dec (fun h => ?_) (fun h => ?_))
      · show _ = _
        rw [szR_neg (by have := szR_lt0 h; omega)]
      · have := szR_ge0 h
        rw [szR_pos this]
        exact next (by omega) _ ⟨by omega, by show _ = l - ((szTs a + szTs b : Nat) : Int); omega⟩
    · show evP E77 G77 _ (lp77 2) (st77 a b m 2) (rk77 _ _ 2 _)
      have h1 : m = l - ((szTs a + szTs b : Nat) : Int) := h1
      rw [b77_2]
      show _ = _
      rw [szR_pos (by omega), h1]
  · exact h.elim
noncomputable def E147 : Env := E0.of Tryz.f147
noncomputable def G147 : Gk := gk []
noncomputable def lp147 (n : Nat) : Code := (loopOf n (codeOf Tryz.f147)).getD .skip
noncomputable def ct147 (L : Lp) (R : Option Res → Prop) (n : Nat) : Kt := contOf E147 G147 L n (codeOf Tryz.f147) (endK E147 Tryz.f147.results.toList R)
noncomputable def rk147 (L : Lp) (R : Option Res → Prop) (n : Nat) (N : St → Prop) : Kt := rk (jof E147 (lp147 n)) N (ct147 L R n)
noncomputable def rkn147 (L : Lp) (R : Option Res → Prop) (n : Nat) (N : St → Prop) (m : Nat) (N2 : St → Prop) : Kt := rk (jof E147 (lp147 m)) N2 (contOf E147 G147 L m (lp147 n) (rk147 L R n N))
noncomputable def LOOPN147 (L : Lp) (R : Option Res → Prop) (n : Nat) (N : St → Prop) (m : Nat) (st : St) : Prop := L (lp147 m) st (contOf E147 G147 L m (lp147 n) (rk147 L R n N))
noncomputable def LOOP147 (L : Lp) (R : Option Res → Prop) (n : Nat) (st : St) : Prop := L (lp147 n) st (ct147 L R n)
theorem hg147 : HG Tryz.prog G147 := hg_nil
theorem okf147 : Ok Tryz.prog E147 := ok0.of Tryz.f147
theorem e147 (L : Lp) (R : Option Res → Prop) (s a : Int) (t : ByteArray) (l : Int) : (bodyP E0 G147 L Tryz.f147 [.agg [.val (.int .i64 s), .val (.int .i64 a), .val (.string t)], .val (.int .i64 l)] [] R) = (
    br (decide (IntKind.i64.wrap (l - (↑t.size : Int)) < 0)) (R (some { av := vI (-1), obs := [], outs := [] })) (R (some { av := vI (IntKind.i64.wrap (l - (↑t.size : Int))), obs := [], outs := [] }))) := by kernel_rfl
theorem h147 : G1Ok Tryz.prog 147 g147 := by
  intro args obs k h
  unfold g147 at h
  split at h
  · rename_i k s a t l
    obtain ⟨hp, h⟩ := br_and h
    rw [Bool.and_eq_true] at hp
    obtain ⟨hB, hl⟩ := hp
    simp only [inL, inLt, inS, decide_eq_true_eq] at hl hB
    refine ⟨_, ctr_fn ok0 hg147 Tryz.func147 (by kernel_rfl) (by kernel_rfl) (by kernel_rfl) fun C => ?_, h⟩
    rw [e147]
    rw [wrap_id (n := l - t.size) (by omega) (by omega)]
    have e : szL (s, a, t, ()) = t.size := rfl
    rw [e]
    refine br_dec (fun h => ?_) (fun h => ?_)
    · rw [szR_neg (by omega)]
    · rw [szR_pos (by omega)]
  · exact h.elim
def szLs (xs : List (Elem kl)) : Nat := xs.length + (xs.map szL).sum
def inLts (xs : List (Elem kl)) : Bool := decide (xs.length ≤ 9223372036854775807) && xs.all inLt
def g78 : G1
  | [.rsl [.int .i64, .int .i64, .str] xs, .val (.int .i64 l)], [], k => br (inLts xs && inL l) (k ⟨.val (.int .i64 (szR l (szLs xs))), [], []⟩) False
  | _, _, _ => False
noncomputable def E78 : Env := E0.of Tryz.f78
noncomputable def G78 : Gk := gk [(147, g147)]
noncomputable def lp78 (n : Nat) : Code := (loopOf n (codeOf Tryz.f78)).getD .skip
noncomputable def ct78 (L : Lp) (R : Option Res → Prop) (n : Nat) : Kt := contOf E78 G78 L n (codeOf Tryz.f78) (endK E78 Tryz.f78.results.toList R)
noncomputable def rk78 (L : Lp) (R : Option Res → Prop) (n : Nat) (N : St → Prop) : Kt := rk (jof E78 (lp78 n)) N (ct78 L R n)
noncomputable def rkn78 (L : Lp) (R : Option Res → Prop) (n : Nat) (N : St → Prop) (m : Nat) (N2 : St → Prop) : Kt := rk (jof E78 (lp78 m)) N2 (contOf E78 G78 L m (lp78 n) (rk78 L R n N))
noncomputable def LOOPN78 (L : Lp) (R : Option Res → Prop) (n : Nat) (N : St → Prop) (m : Nat) (st : St) : Prop := L (lp78 m) st (contOf E78 G78 L m (lp78 n) (rk78 L R n N))
noncomputable def LOOP78 (L : Lp) (R : Option Res → Prop) (n : Nat) (st : St) : Prop := L (lp78 n) st (ct78 L R n)
theorem hg78 : HG Tryz.prog G78 := (hg_cons h147 hg_nil)
theorem okf78 : Ok Tryz.prog E78 := ok0.of Tryz.f78
theorem e78 (L : Lp) (R : Option Res → Prop) (xs : List (Elem kl)) (l : Int) : (bodyP E0 G78 L Tryz.f78 [.rsl kl xs, .val (.int .i64 l)] [] R) = (
    br (decide (IntKind.i64.wrap (l - (↑xs.length : Int)) < 0)) (R (some { av := vI (-1), obs := [], outs := [] })) (LOOP78 L R 5 { tm := [AV.rsl kl xs, vI (IntKind.i64.wrap (l - (↑xs.length : Int))), vU, vU, vI 0, vI 0, vJ, vJ, vJ, vJ, vJ, vJ, vJ, vJ, vJ, vJ, vJ, vJ, vJ, vJ, vJ, vJ, vJ, vJ, vJ, vJ, vU], ob := [], nx := 1000000, ps := [] })) := by kernel_rfl
def st78 (xs : List (Elem kl)) (l m i : Int) : St :=  ⟨[AV.rsl kl xs, .val (.int .i64 m), vU, vU, vI 0, .val (.int .i64 i), vJ, vJ, vJ, vJ, vJ, vJ, vJ, vJ, vJ, vJ, vJ, vJ, vJ, vJ, vJ, vJ, vJ, vJ, vJ, vJ, vU], [], 1000000, []⟩
theorem b78 (L : Lp) (R : Option Res → Prop) (N : St → Prop) (xs : List (Elem kl)) (l m i : Int) : (evP E78 G78 L (lp78 5) (st78 xs l m i) (rk78 L R 5 N)) = (
    br (decide (i < (↑xs.length : Int))) (br (decide (0 ≤ i ∧ i < (↑xs.length : Int))) (br (inLt (xs.getD i.toNat (edflt kl)) && inL m) (br (decide (szR m (szL (xs.getD i.toNat (edflt kl))) < 0)) (R (some { av := vI (-1), obs := [], outs := [] })) (N { tm := [AV.rsl kl xs, vI (szR m (szL (xs.getD i.toNat (edflt kl)))), vU, vU, vI 0, vI (IntKind.i64.wrap (i + 1)), vJ, vJ, vJ, vJ, vJ, vJ, vJ, vJ, vJ, vJ, vJ, vJ, vJ, vJ, vJ, vJ, vJ, vJ, vJ, vJ, vU], ob := [], nx := 1000000, ps := [] })) False) False) (R (some { av := vI m, obs := [], outs := [] }))) := by kernel_rfl
theorem h78 : G1Ok Tryz.prog 78 g78 := by
  intro args obs k h
  unfold g78 at h
  split at h
  · rename_i k xs l
    obtain ⟨hp, h⟩ := br_and h
    rw [Bool.and_eq_true] at hp
    obtain ⟨hB, hl⟩ := hp
    unfold inLts at hB
    rw [Bool.and_eq_true] at hB
    obtain ⟨hlen, hB⟩ := hB
    simp only [inL, decide_eq_true_eq] at hl hlen
    refine ⟨_, ctr_fn ok0 hg78 Tryz.func78 (by kernel_rfl) (by kernel_rfl) (by kernel_rfl) fun C => ?_, h⟩
    rw [e78]
    have e : szLs xs = xs.length + (xs.map szL).sum := rfl
    have hw0 := wrap_id (n := l - xs.length) (by omega) (by omega)
    refine br_dec (fun h => ?_) (fun h => ?_) <;> rw [hw0] at h
    · show _ = _
      rw [e, szR_neg (by omega)]
    · exact loopSz okf78 hg78 (fun i m => st78 xs l m i) xs (edflt kl) szL inLt l (by omega) hl.2 hB (fun N i m hi h0 h1 hw hpr neg pos done => by
        show evP E78 G78 _ (lp78 5) (st78 xs l m i) (rk78 _ _ 5 _)
        rw [b78, hw, Int.toNat_natCast]
        refine br_dec (fun h => br_yes ⟨by omega, h⟩ (br_t ?_ (br_dec (fun h2 => ?_) (fun h2 => ?_)))) (fun h => ?_)
        · rw [Bool.and_eq_true]
          exact ⟨hpr (by omega), by simp only [inL, decide_eq_true_eq]; omega⟩
        · show _ = _
          rw [e, neg (by omega) (szR_lt0 h2)]
        · rw [szR_pos (szR_ge0 h2)]
          exact pos (by omega) (szR_ge0 h2)
        · show _ = _
          rw [e, done (by omega)]) _ hw0 (by omega)
  · exact h.elim
def inD (a b : List (Elem ks)) (c : List (Elem kl)) : Bool := inTs a && inTs b && inLts c
def szD (a b : List (Elem ks)) (c : List (Elem kl)) : Nat := szTs a + szTs b + szLs c
def smD (a b : List (Elem ks)) (c : List (Elem kl)) : Bool := decide (a.length ≤ 1048576) && decide (b.length ≤ 1048576) && decide (c.length ≤ 1048576)
def eqD (a b : List (Elem ks)) (c : List (Elem kl)) (a' b' : List (Elem ks)) (c' : List (Elem kl)) : Bool := eqR ks a a' && eqR ks b b' && eqR kl c c'
def g26 : G1
  | [.agg [.rsl [.str] a, .rsl [.str] b, .rsl [.int .i64, .int .i64, .str] c], .val (.int .i64 l)], [], k => br (inD a b c && inL l) (k ⟨.val (.int .i64 (szR l (szD a b c))), [], []⟩) False
  | _, _, _ => False
noncomputable def E26 : Env := E0.of Tryz.f26
noncomputable def G26 : Gk := gk [(77, g77), (78, g78)]
noncomputable def lp26 (n : Nat) : Code := (loopOf n (codeOf Tryz.f26)).getD .skip
noncomputable def ct26 (L : Lp) (R : Option Res → Prop) (n : Nat) : Kt := contOf E26 G26 L n (codeOf Tryz.f26) (endK E26 Tryz.f26.results.toList R)
noncomputable def rk26 (L : Lp) (R : Option Res → Prop) (n : Nat) (N : St → Prop) : Kt := rk (jof E26 (lp26 n)) N (ct26 L R n)
noncomputable def rkn26 (L : Lp) (R : Option Res → Prop) (n : Nat) (N : St → Prop) (m : Nat) (N2 : St → Prop) : Kt := rk (jof E26 (lp26 m)) N2 (contOf E26 G26 L m (lp26 n) (rk26 L R n N))
noncomputable def LOOPN26 (L : Lp) (R : Option Res → Prop) (n : Nat) (N : St → Prop) (m : Nat) (st : St) : Prop := L (lp26 m) st (contOf E26 G26 L m (lp26 n) (rk26 L R n N))
noncomputable def LOOP26 (L : Lp) (R : Option Res → Prop) (n : Nat) (st : St) : Prop := L (lp26 n) st (ct26 L R n)
theorem hg26 : HG Tryz.prog G26 := (hg_cons h77 (hg_cons h78 hg_nil))
theorem okf26 : Ok Tryz.prog E26 := ok0.of Tryz.f26
theorem e26 (L : Lp) (R : Option Res → Prop) (a b : List (Elem ks)) (c : List (Elem kl)) (l : Int) : (bodyP E0 G26 L Tryz.f26 [.agg [.rsl ks a, .rsl ks b, .rsl kl c], .val (.int .i64 l)] [] R) = (
    br (inTs a && inTs b && inL l) (br (decide (szR l (szTs a + szTs b) < 0)) (R (some { av := vI (-1), obs := [], outs := [] })) (br (inLts c && inL (szR l (szTs a + szTs b))) (br (decide (szR (szR l (szTs a + szTs b)) (szLs c) < 0)) (R (some { av := vI (-1), obs := [], outs := [] })) (R (some { av := vI (szR (szR l (szTs a + szTs b)) (szLs c)), obs := [], outs := [] }))) False)) False) := by kernel_rfl
theorem h26 : G1Ok Tryz.prog 26 g26 := by
  intro args obs k h
  unfold g26 at h
  split at h
  · rename_i k a b c l
    obtain ⟨hp, hl, h⟩ := brb2 h
    unfold inD at hp
    rw [Bool.and_eq_true] at hp
    have hl' := hl
    simp only [inL, decide_eq_true_eq] at hl'
    refine ⟨_, ctr_fn ok0 hg26 Tryz.func26 (by kernel_rfl) (by kernel_rfl) (by kernel_rfl) fun C => ?_, h⟩
    rw [e26]
    have e : szD a b c = szTs a + szTs b + szLs c := rfl
    rw [e]
    refine br_t (by rw [hp.1, hl]; rfl) (br_dec (fun h => ?_) (fun h => ?_))
    · show _ = _
      rw [szR_neg (by have := szR_lt0 h; omega)]
    · have h2 := szR_ge0 h
      rw [szR_pos h2]
      refine br_t (by rw [hp.2]; simp only [inL, Bool.true_and, decide_eq_true_eq]; omega) (br_dec (fun h => ?_) (fun h => ?_))
      · show _ = _
        rw [szR_neg (by have := szR_lt0 h; omega)]
      · have h3 := szR_ge0 h
        show _ = _
        rw [szR_pos h3, szR_pos (l := l) (by omega)]
        exact resI (by omega)
  · exact h.elim
def g151 : G1
  | [.rsl [.str] xs], [], k => br (decide (xs.length ≤ 1048576)) (k ⟨.ows 0, [.row ks xs], []⟩) False
  | _, _, _ => False
noncomputable def E151 : Env := E0.of Tryz.f151
noncomputable def G151 : Gk := gk []
noncomputable def lp151 (n : Nat) : Code := (loopOf n (codeOf Tryz.f151)).getD .skip
noncomputable def ct151 (L : Lp) (R : Option Res → Prop) (n : Nat) : Kt := contOf E151 G151 L n (codeOf Tryz.f151) (endK E151 Tryz.f151.results.toList R)
noncomputable def rk151 (L : Lp) (R : Option Res → Prop) (n : Nat) (N : St → Prop) : Kt := rk (jof E151 (lp151 n)) N (ct151 L R n)
noncomputable def rkn151 (L : Lp) (R : Option Res → Prop) (n : Nat) (N : St → Prop) (m : Nat) (N2 : St → Prop) : Kt := rk (jof E151 (lp151 m)) N2 (contOf E151 G151 L m (lp151 n) (rk151 L R n N))
noncomputable def LOOPN151 (L : Lp) (R : Option Res → Prop) (n : Nat) (N : St → Prop) (m : Nat) (st : St) : Prop := L (lp151 m) st (contOf E151 G151 L m (lp151 n) (rk151 L R n N))
noncomputable def LOOP151 (L : Lp) (R : Option Res → Prop) (n : Nat) (st : St) : Prop := L (lp151 n) st (ct151 L R n)
theorem hg151 : HG Tryz.prog G151 := hg_nil
theorem okf151 : Ok Tryz.prog E151 := ok0.of Tryz.f151
theorem e151 (L : Lp) (R : Option Res → Prop) (xs : List (Elem ks)) : (bodyP E0 G151 L Tryz.f151 [.rsl ks xs] [] R) = (
    br (decide (0 ≤ (↑xs.length : Int) ∧ (↑xs.length : Int) ≤ (↑xs.length : Int) ∧ 16 * (↑xs.length : Int) ≤ 281474976710656)) (LOOP151 L R 3 { tm := [AV.rsl ks xs, vU, AV.ows 0, AV.ows 1, vI 0, vJ, vJ, vJ, vJ, vJ, vJ, vJ, vJ, vJ, vJ, vJ, vJ, vJ, vJ, vJ, vJ, vU], ob := [(0, AO.row ks []), (1, AO.row ks (List.replicate (↑xs.length : Int).toNat (edflt ks)))], nx := 1000000, ps := [] }) False) := by kernel_rfl
def st151 (xs : List (Elem ks)) (i : Int) (ys : List (Elem ks)) : St :=  ⟨[AV.rsl ks xs, vU, AV.ows 0, AV.ows 1, .val (.int .i64 i), vJ, vJ, vJ, vJ, vJ, vJ, vJ, vJ, vJ, vJ, vJ, vJ, vJ, vJ, vJ, vJ, vU], [(0, AO.row ks []), (1, .row ks ys)], 1000000, []⟩
theorem b151 (L : Lp) (R : Option Res → Prop) (N : St → Prop) (xs : List (Elem ks)) (i : Int) (ys : List (Elem ks)) : (evP E151 G151 L (lp151 3) (st151 xs i ys) (rk151 L R 3 N)) = (
    br (decide (i < (↑xs.length : Int))) (br (decide (0 ≤ i ∧ i < (↑xs.length : Int))) (br (decide (0 ≤ i ∧ i < (↑ys.length : Int))) (N { tm := [AV.rsl ks xs, vU, AV.ows 0, AV.ows 1, vI (IntKind.i64.wrap (i + 1)), vJ, vJ, vJ, vJ, vJ, vJ, vJ, vJ, vJ, vJ, vJ, vJ, vJ, vJ, vJ, vJ, vU], ob := [(0, AO.row ks []), (1, AO.row ks (ys.set i.toNat (xs.getD i.toNat (edflt ks))))], nx := 1000000, ps := [] }) False) False) (R (some { av := AV.ows 0, obs := [AO.row ks ys], outs := [] }))) := by kernel_rfl
theorem h151 : G1Ok Tryz.prog 151 g151 := by
  intro args obs k h
  unfold g151 at h
  split at h
  · rename_i k xs
    obtain ⟨hlen, h⟩ := brd h
    refine ⟨_, ctr_fn ok0 hg151 Tryz.func151 (by kernel_rfl) (by kernel_rfl) (by kernel_rfl) fun C => ?_, h⟩
    rw [e151]
    refine br_yes ⟨by omega, by omega, by omega⟩ ?_
    exact loopUp okf151 hg151 (fun i ys => st151 xs i ys) xs.length (Cp xs) (fun N i ys hi hc next => by
      show evP E151 G151 _ (lp151 3) (st151 xs i ys) (rk151 _ _ 3 _)
      rw [b151, wrap_id (n := (i : Int) + 1) (by omega) (by omega), Int.toNat_natCast]
      have hl := hc.len
      refine br_dec (fun h2 => ?_) (fun h2 => ?_)
      · refine br_yes ⟨by omega, h2⟩ (br_yes ⟨by omega, by omega⟩ ?_)
        exact next (by omega) _ (hc.next (by omega))
      · show _ = _
        rw [hc.done (by omega)]) _ (Cp.zero xs _)
  · exact h.elim
def g82 : G1
  | [.agg [.rsl [.str] a, .rsl [.str] b]], [], k => br (decide (a.length ≤ 1048576) && decide (b.length ≤ 1048576)) (k ⟨.agg [.ows 0, .ows 1], [.row ks a, .row ks b], []⟩) False
  | _, _, _ => False
noncomputable def E82 : Env := E0.of Tryz.f82
noncomputable def G82 : Gk := gk [(151, g151)]
noncomputable def lp82 (n : Nat) : Code := (loopOf n (codeOf Tryz.f82)).getD .skip
noncomputable def ct82 (L : Lp) (R : Option Res → Prop) (n : Nat) : Kt := contOf E82 G82 L n (codeOf Tryz.f82) (endK E82 Tryz.f82.results.toList R)
noncomputable def rk82 (L : Lp) (R : Option Res → Prop) (n : Nat) (N : St → Prop) : Kt := rk (jof E82 (lp82 n)) N (ct82 L R n)
noncomputable def rkn82 (L : Lp) (R : Option Res → Prop) (n : Nat) (N : St → Prop) (m : Nat) (N2 : St → Prop) : Kt := rk (jof E82 (lp82 m)) N2 (contOf E82 G82 L m (lp82 n) (rk82 L R n N))
noncomputable def LOOPN82 (L : Lp) (R : Option Res → Prop) (n : Nat) (N : St → Prop) (m : Nat) (st : St) : Prop := L (lp82 m) st (contOf E82 G82 L m (lp82 n) (rk82 L R n N))
noncomputable def LOOP82 (L : Lp) (R : Option Res → Prop) (n : Nat) (st : St) : Prop := L (lp82 n) st (ct82 L R n)
theorem hg82 : HG Tryz.prog G82 := (hg_cons h151 hg_nil)
theorem okf82 : Ok Tryz.prog E82 := ok0.of Tryz.f82
theorem e82 (L : Lp) (R : Option Res → Prop) (a b : List (Elem ks)) : (bodyP E0 G82 L Tryz.f82 [.agg [.rsl ks a, .rsl ks b]] [] R) = (
    LOOP82 L R 3 { tm := [AV.agg [AV.rsl ks a, AV.rsl ks b], AV.ptr 0 0, AV.ptr 1 0, AV.ptr 4 0, vI 0, vJ, vJ, vJ, vJ, vJ, vJ, vJ, vJ, vJ, vJ, vU], ob := [(0, AO.box [AV.rsl ks a, AV.rsl ks b]), (1, AO.box [AV.ows 2, AV.ows 3]), (2, AO.row ks []), (3, AO.row ks []), (4, AO.box [AV.ows 5, AV.ows 6]), (5, AO.row ks []), (6, AO.row ks [])], nx := 1000000, ps := [] }) := by kernel_rfl
def st82 (a b : List (Elem ks)) (i : Int) (x y : List (Elem ks)) : St :=  ⟨[AV.agg [AV.rsl ks a, AV.rsl ks b], AV.ptr 0 0, AV.ptr 1 0, AV.ptr 4 0, .val (.int .i64 i), vJ, vJ, vJ, vJ, vJ, vJ, vJ, vJ, vJ, vJ, vU], [(0, AO.box [AV.rsl ks a, AV.rsl ks b]), (1, AO.box [AV.ows 2, AV.ows 3]), (2, AO.row ks []), (3, AO.row ks []), (4, AO.box [AV.ows 5, AV.ows 6]), (5, .row ks x), (6, .row ks y)], 1000000, []⟩
theorem b82_0 (L : Lp) (R : Option Res → Prop) (N : St → Prop) (a b : List (Elem ks)) : (evP E82 G82 L (lp82 3) (st82 a b 0 [] []) (rk82 L R 3 N)) = (
    br (decide (a.length ≤ 1048576)) (N { tm := [AV.agg [AV.rsl ks a, AV.rsl ks b], AV.ptr 0 0, AV.ptr 1 0, AV.ptr 4 0, vI 1, vJ, vJ, vJ, vJ, vJ, vJ, vJ, vJ, vJ, vJ, vU], ob := [(0, AO.box [AV.rsl ks a, AV.rsl ks b]), (1, AO.box [AV.ows 2, AV.ows 3]), (2, AO.row ks []), (3, AO.row ks []), (4, AO.box [AV.ows 5, AV.ows 6]), (5, AO.row ks a), (6, AO.row ks [])], nx := 1000000, ps := [] }) False) := by kernel_rfl
theorem b82_1 (L : Lp) (R : Option Res → Prop) (N : St → Prop) (a b : List (Elem ks)) : (evP E82 G82 L (lp82 3) (st82 a b 1 a []) (rk82 L R 3 N)) = (
    br (decide (b.length ≤ 1048576)) (N { tm := [AV.agg [AV.rsl ks a, AV.rsl ks b], AV.ptr 0 0, AV.ptr 1 0, AV.ptr 4 0, vI 2, vJ, vJ, vJ, vJ, vJ, vJ, vJ, vJ, vJ, vJ, vU], ob := [(0, AO.box [AV.rsl ks a, AV.rsl ks b]), (1, AO.box [AV.ows 2, AV.ows 3]), (2, AO.row ks []), (3, AO.row ks []), (4, AO.box [AV.ows 5, AV.ows 6]), (5, AO.row ks a), (6, AO.row ks b)], nx := 1000000, ps := [] }) False) := by kernel_rfl
theorem b82_2 (L : Lp) (R : Option Res → Prop) (N : St → Prop) (a b : List (Elem ks)) : (evP E82 G82 L (lp82 3) (st82 a b 2 a b) (rk82 L R 3 N)) = (
    R (some { av := AV.agg [AV.ows 0, AV.ows 1], obs := [AO.row ks a, AO.row ks b], outs := [] })) := by kernel_rfl
theorem h82 : G1Ok Tryz.prog 82 g82 := by
  intro args obs k h
  unfold g82 at h
  split at h
  · rename_i k a b
    obtain ⟨ha, hb, h⟩ := brb2 h
    refine ⟨_, ctr_fn ok0 hg82 Tryz.func82 (by kernel_rfl) (by kernel_rfl) (by kernel_rfl) fun C => ?_, h⟩
    rw [e82]
    refine loopSeq okf82 hg82 (fun | 0 => st82 a b 0 [] [] | 1 => st82 a b 1 a [] | _ => st82 a b 2 a b) 2 (fun N i hi next => ?_) (fun N => ?_)
    · have cs : i = 0 ∨ i = 1 := by omega
      rcases cs with rfl | rfl
      · show evP E82 G82 _ (lp82 3) (st82 a b 0 [] []) (rk82 _ _ 3 _)
        rw [b82_0]
        exact br_t ha next
      · show evP E82 G82 _ (lp82 3) (st82 a b 1 a []) (rk82 _ _ 3 _)
        rw [b82_1]
        exact br_t hb next
    · show evP E82 G82 _ (lp82 3) (st82 a b 2 a b) (rk82 _ _ 3 _)
      rw [b82_2]
  · exact h.elim
def g152 : G1
  | [.agg [.val (.int .i64 a0), .val (.int .i64 a1), .val (.string a2)]], [], k => k ⟨.agg [.val (.int .i64 a0), .val (.int .i64 a1), .val (.string a2)], [], []⟩
  | _, _, _ => False
noncomputable def E152 : Env := E0.of Tryz.f152
noncomputable def G152 : Gk := gk []
noncomputable def lp152 (n : Nat) : Code := (loopOf n (codeOf Tryz.f152)).getD .skip
noncomputable def ct152 (L : Lp) (R : Option Res → Prop) (n : Nat) : Kt := contOf E152 G152 L n (codeOf Tryz.f152) (endK E152 Tryz.f152.results.toList R)
noncomputable def rk152 (L : Lp) (R : Option Res → Prop) (n : Nat) (N : St → Prop) : Kt := rk (jof E152 (lp152 n)) N (ct152 L R n)
noncomputable def rkn152 (L : Lp) (R : Option Res → Prop) (n : Nat) (N : St → Prop) (m : Nat) (N2 : St → Prop) : Kt := rk (jof E152 (lp152 m)) N2 (contOf E152 G152 L m (lp152 n) (rk152 L R n N))
noncomputable def LOOPN152 (L : Lp) (R : Option Res → Prop) (n : Nat) (N : St → Prop) (m : Nat) (st : St) : Prop := L (lp152 m) st (contOf E152 G152 L m (lp152 n) (rk152 L R n N))
noncomputable def LOOP152 (L : Lp) (R : Option Res → Prop) (n : Nat) (st : St) : Prop := L (lp152 n) st (ct152 L R n)
theorem hg152 : HG Tryz.prog G152 := hg_nil
theorem okf152 : Ok Tryz.prog E152 := ok0.of Tryz.f152
theorem e152 (L : Lp) (R : Option Res → Prop) (a0 : Int) (a1 : Int) (a2 : ByteArray) : (bodyP E0 G152 L Tryz.f152 [.agg [.val (.int .i64 a0), .val (.int .i64 a1), .val (.string a2)]] [] R) = (
    R (some { av := AV.agg [vI a0, vI a1, vS a2], obs := [], outs := [] })) := by kernel_rfl
theorem h152 : G1Ok Tryz.prog 152 g152 := by
  intro args obs k h
  unfold g152 at h
  split at h
  · rename_i k a0 a1 a2
    refine ⟨_, ctr_fn ok0 hg152 Tryz.func152 (by kernel_rfl) (by kernel_rfl) (by kernel_rfl) fun C => ?_, h⟩
    rw [e152]
  · exact h.elim
def g83 : G1
  | [.rsl [.int .i64, .int .i64, .str] xs], [], k => br (decide (xs.length ≤ 1048576)) (k ⟨.ows 0, [.row kl xs], []⟩) False
  | _, _, _ => False
noncomputable def E83 : Env := E0.of Tryz.f83
noncomputable def G83 : Gk := gk [(152, g152)]
noncomputable def lp83 (n : Nat) : Code := (loopOf n (codeOf Tryz.f83)).getD .skip
noncomputable def ct83 (L : Lp) (R : Option Res → Prop) (n : Nat) : Kt := contOf E83 G83 L n (codeOf Tryz.f83) (endK E83 Tryz.f83.results.toList R)
noncomputable def rk83 (L : Lp) (R : Option Res → Prop) (n : Nat) (N : St → Prop) : Kt := rk (jof E83 (lp83 n)) N (ct83 L R n)
noncomputable def rkn83 (L : Lp) (R : Option Res → Prop) (n : Nat) (N : St → Prop) (m : Nat) (N2 : St → Prop) : Kt := rk (jof E83 (lp83 m)) N2 (contOf E83 G83 L m (lp83 n) (rk83 L R n N))
noncomputable def LOOPN83 (L : Lp) (R : Option Res → Prop) (n : Nat) (N : St → Prop) (m : Nat) (st : St) : Prop := L (lp83 m) st (contOf E83 G83 L m (lp83 n) (rk83 L R n N))
noncomputable def LOOP83 (L : Lp) (R : Option Res → Prop) (n : Nat) (st : St) : Prop := L (lp83 n) st (ct83 L R n)
theorem hg83 : HG Tryz.prog G83 := (hg_cons h152 hg_nil)
theorem okf83 : Ok Tryz.prog E83 := ok0.of Tryz.f83
theorem e83 (L : Lp) (R : Option Res → Prop) (xs : List (Elem kl)) : (bodyP E0 G83 L Tryz.f83 [.rsl kl xs] [] R) = (
    br (decide (0 ≤ (↑xs.length : Int) ∧ (↑xs.length : Int) ≤ (↑xs.length : Int) ∧ 32 * (↑xs.length : Int) ≤ 281474976710656)) (LOOP83 L R 3 { tm := [AV.rsl kl xs, vU, AV.ows 0, AV.ows 1, vI 0, vJ, vJ, vJ, vJ, vJ, vJ, vJ, vJ, vJ, vJ, vJ, vJ, vJ, vJ, vJ, vJ, vJ, vU], ob := [(0, AO.row kl []), (1, AO.row kl (List.replicate (↑xs.length : Int).toNat (edflt kl)))], nx := 1000000, ps := [] }) False) := by kernel_rfl
def st83 (xs : List (Elem kl)) (i : Int) (ys : List (Elem kl)) : St :=  ⟨[AV.rsl kl xs, vU, AV.ows 0, AV.ows 1, .val (.int .i64 i), vJ, vJ, vJ, vJ, vJ, vJ, vJ, vJ, vJ, vJ, vJ, vJ, vJ, vJ, vJ, vJ, vJ, vU], [(0, AO.row kl []), (1, .row kl ys)], 1000000, []⟩
theorem b83 (L : Lp) (R : Option Res → Prop) (N : St → Prop) (xs : List (Elem kl)) (i : Int) (ys : List (Elem kl)) : (evP E83 G83 L (lp83 3) (st83 xs i ys) (rk83 L R 3 N)) = (
    br (decide (i < (↑xs.length : Int))) (br (decide (0 ≤ i ∧ i < (↑xs.length : Int))) (br (decide (0 ≤ i ∧ i < (↑ys.length : Int))) (N { tm := [AV.rsl kl xs, vU, AV.ows 0, AV.ows 1, vI (IntKind.i64.wrap (i + 1)), vJ, vJ, vJ, vJ, vJ, vJ, vJ, vJ, vJ, vJ, vJ, vJ, vJ, vJ, vJ, vJ, vJ, vU], ob := [(0, AO.row kl []), (1, AO.row kl (ys.set i.toNat (xs.getD i.toNat (edflt kl))))], nx := 1000000, ps := [] }) False) False) (R (some { av := AV.ows 0, obs := [AO.row kl ys], outs := [] }))) := by kernel_rfl
theorem h83 : G1Ok Tryz.prog 83 g83 := by
  intro args obs k h
  unfold g83 at h
  split at h
  · rename_i k xs
    obtain ⟨hlen, h⟩ := brd h
    refine ⟨_, ctr_fn ok0 hg83 Tryz.func83 (by kernel_rfl) (by kernel_rfl) (by kernel_rfl) fun C => ?_, h⟩
    rw [e83]
    refine br_yes ⟨by omega, by omega, by omega⟩ ?_
    exact loopUp okf83 hg83 (fun i ys => st83 xs i ys) xs.length (Cp xs) (fun N i ys hi hc next => by
      show evP E83 G83 _ (lp83 3) (st83 xs i ys) (rk83 _ _ 3 _)
      rw [b83, wrap_id (n := (i : Int) + 1) (by omega) (by omega), Int.toNat_natCast]
      have hl := hc.len
      refine br_dec (fun h2 => ?_) (fun h2 => ?_)
      · refine br_yes ⟨by omega, h2⟩ (br_yes ⟨by omega, by omega⟩ ?_)
        exact next (by omega) _ (hc.next (by omega))
      · show _ = _
        rw [hc.done (by omega)]) _ (Cp.zero xs _)
  · exact h.elim
def g28 : G1
  | [.agg [.rsl [.str] a, .rsl [.str] b, .rsl [.int .i64, .int .i64, .str] c]], [], k => br (smD a b c) (k ⟨.agg [.ows 0, .ows 1, .ows 2], [.row ks a, .row ks b, .row kl c], []⟩) False
  | _, _, _ => False
noncomputable def E28 : Env := E0.of Tryz.f28
noncomputable def G28 : Gk := gk [(82, g82), (83, g83)]
noncomputable def lp28 (n : Nat) : Code := (loopOf n (codeOf Tryz.f28)).getD .skip
noncomputable def ct28 (L : Lp) (R : Option Res → Prop) (n : Nat) : Kt := contOf E28 G28 L n (codeOf Tryz.f28) (endK E28 Tryz.f28.results.toList R)
noncomputable def rk28 (L : Lp) (R : Option Res → Prop) (n : Nat) (N : St → Prop) : Kt := rk (jof E28 (lp28 n)) N (ct28 L R n)
noncomputable def rkn28 (L : Lp) (R : Option Res → Prop) (n : Nat) (N : St → Prop) (m : Nat) (N2 : St → Prop) : Kt := rk (jof E28 (lp28 m)) N2 (contOf E28 G28 L m (lp28 n) (rk28 L R n N))
noncomputable def LOOPN28 (L : Lp) (R : Option Res → Prop) (n : Nat) (N : St → Prop) (m : Nat) (st : St) : Prop := L (lp28 m) st (contOf E28 G28 L m (lp28 n) (rk28 L R n N))
noncomputable def LOOP28 (L : Lp) (R : Option Res → Prop) (n : Nat) (st : St) : Prop := L (lp28 n) st (ct28 L R n)
theorem hg28 : HG Tryz.prog G28 := (hg_cons h82 (hg_cons h83 hg_nil))
theorem okf28 : Ok Tryz.prog E28 := ok0.of Tryz.f28
theorem e28 (L : Lp) (R : Option Res → Prop) (a b : List (Elem ks)) (c : List (Elem kl)) : (bodyP E0 G28 L Tryz.f28 [.agg [.rsl ks a, .rsl ks b, .rsl kl c]] [] R) = (
    br (decide (a.length ≤ 1048576) && decide (b.length ≤ 1048576)) (br (decide (c.length ≤ 1048576)) (R (some { av := AV.agg [AV.ows 0, AV.ows 1, AV.ows 2], obs := [AO.row ks a, AO.row ks b, AO.row kl c], outs := [] })) False) False) := by kernel_rfl
theorem h28 : G1Ok Tryz.prog 28 g28 := by
  intro args obs k h
  unfold g28 at h
  split at h
  · rename_i k a b c
    unfold smD at h
    obtain ⟨hp, hc, h⟩ := brb2 h
    refine ⟨_, ctr_fn ok0 hg28 Tryz.func28 (by kernel_rfl) (by kernel_rfl) (by kernel_rfl) fun C => ?_, h⟩
    rw [e28]
    exact br_t hp (br_t hc rfl)
  · exact h.elim
def g159 : G1
  | [.rsl [.str] xs, .rsl [.str] ys], [], k => br (decide (xs.length ≤ 1048576)) (k ⟨.val (.bool (eqR ks xs ys)), [], []⟩) False
  | _, _, _ => False
noncomputable def E159 : Env := E0.of Tryz.f159
noncomputable def G159 : Gk := gk []
noncomputable def lp159 (n : Nat) : Code := (loopOf n (codeOf Tryz.f159)).getD .skip
noncomputable def ct159 (L : Lp) (R : Option Res → Prop) (n : Nat) : Kt := contOf E159 G159 L n (codeOf Tryz.f159) (endK E159 Tryz.f159.results.toList R)
noncomputable def rk159 (L : Lp) (R : Option Res → Prop) (n : Nat) (N : St → Prop) : Kt := rk (jof E159 (lp159 n)) N (ct159 L R n)
noncomputable def rkn159 (L : Lp) (R : Option Res → Prop) (n : Nat) (N : St → Prop) (m : Nat) (N2 : St → Prop) : Kt := rk (jof E159 (lp159 m)) N2 (contOf E159 G159 L m (lp159 n) (rk159 L R n N))
noncomputable def LOOPN159 (L : Lp) (R : Option Res → Prop) (n : Nat) (N : St → Prop) (m : Nat) (st : St) : Prop := L (lp159 m) st (contOf E159 G159 L m (lp159 n) (rk159 L R n N))
noncomputable def LOOP159 (L : Lp) (R : Option Res → Prop) (n : Nat) (st : St) : Prop := L (lp159 n) st (ct159 L R n)
theorem hg159 : HG Tryz.prog G159 := hg_nil
theorem okf159 : Ok Tryz.prog E159 := ok0.of Tryz.f159
theorem e159 (L : Lp) (R : Option Res → Prop) (xs ys : List (Elem ks)) : (bodyP E0 G159 L Tryz.f159 [.rsl ks xs, .rsl ks ys] [] R) = (
    br ((↑xs.length : Int) != (↑ys.length : Int)) (R (some { av := vB false, obs := [], outs := [] })) (LOOP159 L R 4 { tm := [AV.rsl ks xs, AV.rsl ks ys, vU, vU, vB false, vI 0, vJ, vJ, vJ, vJ, vJ, vJ, vJ, vJ, vJ, vJ, vJ, vJ, vJ, vJ, vJ, vJ, vJ, vJ, vJ, vJ], ob := [], nx := 1000000, ps := [] })) := by kernel_rfl
def st159 (xs ys : List (Elem ks)) (i : Int) : St :=  ⟨[AV.rsl ks xs, AV.rsl ks ys, vU, vU, vB false, .val (.int .i64 i), vJ, vJ, vJ, vJ, vJ, vJ, vJ, vJ, vJ, vJ, vJ, vJ, vJ, vJ, vJ, vJ, vJ, vJ, vJ, vJ], [], 1000000, []⟩
theorem b159 (L : Lp) (R : Option Res → Prop) (N : St → Prop) (xs ys : List (Elem ks)) (i : Int) : (evP E159 G159 L (lp159 4) (st159 xs ys i) (rk159 L R 4 N)) = (
    br (decide (i < (↑xs.length : Int))) (br (decide (0 ≤ i ∧ i < (↑xs.length : Int))) (br (decide (0 ≤ i ∧ i < (↑ys.length : Int))) (br (!strEq (xs.getD i.toNat (edflt ks)).fst (ys.getD i.toNat (edflt ks)).fst) (R (some { av := vB false, obs := [], outs := [] })) (N { tm := [AV.rsl ks xs, AV.rsl ks ys, vU, vU, vB false, vI (IntKind.i64.wrap (i + 1)), vJ, vJ, vJ, vJ, vJ, vJ, vJ, vJ, vJ, vJ, vJ, vJ, vJ, vJ, vJ, vJ, vJ, vJ, vJ, vJ], ob := [], nx := 1000000, ps := [] })) False) False) (R (some { av := vB true, obs := [], outs := [] }))) := by kernel_rfl
theorem h159 : G1Ok Tryz.prog 159 g159 := by
  intro args obs k h
  unfold g159 at h
  split at h
  · rename_i k xs ys
    obtain ⟨hlen, h⟩ := brd h
    refine ⟨_, ctr_fn ok0 hg159 Tryz.func159 (by kernel_rfl) (by kernel_rfl) (by kernel_rfl) fun C => ?_, h⟩
    rw [e159]
    refine br_intro (fun hb => ?_) (fun hb => ?_)
    · show _ = _
      rw [show eqR ks xs ys = false from eqL_len (fun e => by rw [e] at hb; simp at hb)]
    have hl : xs.length = ys.length := by simp at hb; omega
    exact loopAll okf159 hg159 (fun i => st159 xs ys i) xs.length (fun i => elemEq ks (xs.getD i (edflt ks)) (ys.getD i (edflt ks))) (by omega) (fun N i hi hw next fails done => by
      show evP E159 G159 _ (lp159 4) (st159 xs ys i) (rk159 _ _ 4 _)
      rw [b159, hw, Int.toNat_natCast]
      refine br_dec (fun h2 => br_yes ⟨by omega, h2⟩ (br_yes ⟨by omega, by omega⟩ (br_not (fun h3 => ?_) (fun h3 => ?_)))) (fun h2 => ?_)
      · show _ = _
        rw [show eqR ks xs ys = false from (eqL_of hl).trans (fails (by omega) h3)]
      · exact next (by omega) h3
      · show _ = _
        rw [show eqR ks xs ys = true from (eqL_of hl).trans (done (by omega))])
  · exact h.elim
def g87 : G1
  | [.agg [.rsl [.str] a, .rsl [.str] b], .agg [.rsl [.str] a', .rsl [.str] b']], [], k => br (decide (a.length ≤ 1048576) && decide (b.length ≤ 1048576)) (k ⟨.val (.bool (eqR ks a a' && eqR ks b b')), [], []⟩) False
  | _, _, _ => False
noncomputable def E87 : Env := E0.of Tryz.f87
noncomputable def G87 : Gk := gk [(159, g159)]
noncomputable def lp87 (n : Nat) : Code := (loopOf n (codeOf Tryz.f87)).getD .skip
noncomputable def ct87 (L : Lp) (R : Option Res → Prop) (n : Nat) : Kt := contOf E87 G87 L n (codeOf Tryz.f87) (endK E87 Tryz.f87.results.toList R)
noncomputable def rk87 (L : Lp) (R : Option Res → Prop) (n : Nat) (N : St → Prop) : Kt := rk (jof E87 (lp87 n)) N (ct87 L R n)
noncomputable def rkn87 (L : Lp) (R : Option Res → Prop) (n : Nat) (N : St → Prop) (m : Nat) (N2 : St → Prop) : Kt := rk (jof E87 (lp87 m)) N2 (contOf E87 G87 L m (lp87 n) (rk87 L R n N))
noncomputable def LOOPN87 (L : Lp) (R : Option Res → Prop) (n : Nat) (N : St → Prop) (m : Nat) (st : St) : Prop := L (lp87 m) st (contOf E87 G87 L m (lp87 n) (rk87 L R n N))
noncomputable def LOOP87 (L : Lp) (R : Option Res → Prop) (n : Nat) (st : St) : Prop := L (lp87 n) st (ct87 L R n)
theorem hg87 : HG Tryz.prog G87 := (hg_cons h159 hg_nil)
theorem okf87 : Ok Tryz.prog E87 := ok0.of Tryz.f87
theorem e87 (L : Lp) (R : Option Res → Prop) (a b a' b' : List (Elem ks)) : (bodyP E0 G87 L Tryz.f87 [.agg [.rsl ks a, .rsl ks b], .agg [.rsl ks a', .rsl ks b']] [] R) = (
    LOOP87 L R 2 { tm := [AV.agg [AV.rsl ks a, AV.rsl ks b], AV.agg [AV.rsl ks a', AV.rsl ks b'], AV.ptr 0 0, AV.ptr 1 0, vB false, vI 0, vJ, vJ, vJ, vJ, vJ, vJ, vJ, vJ, vJ, vJ, vJ, vJ], ob := [(0, AO.box [AV.rsl ks a, AV.rsl ks b]), (1, AO.box [AV.rsl ks a', AV.rsl ks b'])], nx := 1000000, ps := [] }) := by kernel_rfl
def st87 (a b a' b' : List (Elem ks)) (i : Int) : St :=  ⟨[AV.agg [AV.rsl ks a, AV.rsl ks b], AV.agg [AV.rsl ks a', AV.rsl ks b'], AV.ptr 0 0, AV.ptr 1 0, vB false, .val (.int .i64 i), vJ, vJ, vJ, vJ, vJ, vJ, vJ, vJ, vJ, vJ, vJ, vJ], [(0, AO.box [AV.rsl ks a, AV.rsl ks b]), (1, AO.box [AV.rsl ks a', AV.rsl ks b'])], 1000000, []⟩
theorem b87_0 (L : Lp) (R : Option Res → Prop) (N : St → Prop) (a b a' b' : List (Elem ks)) : (evP E87 G87 L (lp87 2) (st87 a b a' b' 0) (rk87 L R 2 N)) = (
    br (decide (a.length ≤ 1048576)) (br (!eqR ks a a') (R (some { av := vB false, obs := [], outs := [] })) (N { tm := [AV.agg [AV.rsl ks a, AV.rsl ks b], AV.agg [AV.rsl ks a', AV.rsl ks b'], AV.ptr 0 0, AV.ptr 1 0, vB false, vI 1, vJ, vJ, vJ, vJ, vJ, vJ, vJ, vJ, vJ, vJ, vJ, vJ], ob := [(0, AO.box [AV.rsl ks a, AV.rsl ks b]), (1, AO.box [AV.rsl ks a', AV.rsl ks b'])], nx := 1000000, ps := [] })) False) := by kernel_rfl
theorem b87_1 (L : Lp) (R : Option Res → Prop) (N : St → Prop) (a b a' b' : List (Elem ks)) : (evP E87 G87 L (lp87 2) (st87 a b a' b' 1) (rk87 L R 2 N)) = (
    br (decide (b.length ≤ 1048576)) (br (!eqR ks b b') (R (some { av := vB false, obs := [], outs := [] })) (N { tm := [AV.agg [AV.rsl ks a, AV.rsl ks b], AV.agg [AV.rsl ks a', AV.rsl ks b'], AV.ptr 0 0, AV.ptr 1 0, vB false, vI 2, vJ, vJ, vJ, vJ, vJ, vJ, vJ, vJ, vJ, vJ, vJ, vJ], ob := [(0, AO.box [AV.rsl ks a, AV.rsl ks b]), (1, AO.box [AV.rsl ks a', AV.rsl ks b'])], nx := 1000000, ps := [] })) False) := by kernel_rfl
theorem b87_2 (L : Lp) (R : Option Res → Prop) (N : St → Prop) (a b a' b' : List (Elem ks)) : (evP E87 G87 L (lp87 2) (st87 a b a' b' 2) (rk87 L R 2 N)) = (
    R (some { av := vB true, obs := [], outs := [] })) := by kernel_rfl
theorem h87 : G1Ok Tryz.prog 87 g87 := by
  intro args obs k h
  unfold g87 at h
  split at h
  · rename_i k a b a' b'
    obtain ⟨ha, hb, h⟩ := brb2 h
    refine ⟨_, ctr_fn ok0 hg87 Tryz.func87 (by kernel_rfl) (by kernel_rfl) (by kernel_rfl) fun C => ?_, h⟩
    rw [e87]
    refine loopUp okf87 hg87 (α := Unit) (fun i _ => st87 a b a' b' i) 2 (fun i _ => (0 < i → eqR ks a a' = true) ∧ (1 < i → eqR ks b b' = true)) (fun N i _ hi ⟨h0, h1⟩ next => ?_) () ⟨by omega, by omega⟩
    have cs : i = 0 ∨ i = 1 ∨ i = 2 := by omega
    rcases cs with rfl | rfl | rfl
    · show evP E87 G87 _ (lp87 2) (st87 a b a' b' 0) (rk87 _ _ 2 _)
      rw [b87_0]
      refine br_t ha (br_not (fun h => ?_) (fun h => ?_))
      · show _ = _
        rw [h]
        rfl
      · exact next (by omega) () ⟨fun _ => h, by omega⟩
    · show evP E87 G87 _ (lp87 2) (st87 a b a' b' 1) (rk87 _ _ 2 _)
      rw [b87_1]
      refine br_t hb (br_not (fun h => ?_) (fun h => ?_))
      · show _ = _
        rw [h, Bool.and_false]
      · exact next (by omega) () ⟨fun _ => h0 (by omega), fun _ => h⟩
    · show evP E87 G87 _ (lp87 2) (st87 a b a' b' 2) (rk87 _ _ 2 _)
      rw [b87_2]
      show _ = _
      rw [h0 (by omega), h1 (by omega)]
      rfl
  · exact h.elim
def g160 : G1
  | [.agg [.val (.int .i64 a0), .val (.int .i64 a1), .val (.string a2)], .agg [.val (.int .i64 b0), .val (.int .i64 b1), .val (.string b2)]], [], k => k ⟨.val (.bool (elemEq kl (a0, a1, a2, ()) (b0, b1, b2, ()))), [], []⟩
  | _, _, _ => False
noncomputable def E160 : Env := E0.of Tryz.f160
noncomputable def G160 : Gk := gk []
noncomputable def lp160 (n : Nat) : Code := (loopOf n (codeOf Tryz.f160)).getD .skip
noncomputable def ct160 (L : Lp) (R : Option Res → Prop) (n : Nat) : Kt := contOf E160 G160 L n (codeOf Tryz.f160) (endK E160 Tryz.f160.results.toList R)
noncomputable def rk160 (L : Lp) (R : Option Res → Prop) (n : Nat) (N : St → Prop) : Kt := rk (jof E160 (lp160 n)) N (ct160 L R n)
noncomputable def rkn160 (L : Lp) (R : Option Res → Prop) (n : Nat) (N : St → Prop) (m : Nat) (N2 : St → Prop) : Kt := rk (jof E160 (lp160 m)) N2 (contOf E160 G160 L m (lp160 n) (rk160 L R n N))
noncomputable def LOOPN160 (L : Lp) (R : Option Res → Prop) (n : Nat) (N : St → Prop) (m : Nat) (st : St) : Prop := L (lp160 m) st (contOf E160 G160 L m (lp160 n) (rk160 L R n N))
noncomputable def LOOP160 (L : Lp) (R : Option Res → Prop) (n : Nat) (st : St) : Prop := L (lp160 n) st (ct160 L R n)
theorem hg160 : HG Tryz.prog G160 := hg_nil
theorem okf160 : Ok Tryz.prog E160 := ok0.of Tryz.f160
theorem e160 (L : Lp) (R : Option Res → Prop) (a0 : Int) (a1 : Int) (a2 : ByteArray) (b0 : Int) (b1 : Int) (b2 : ByteArray) : (bodyP E0 G160 L Tryz.f160 [.agg [.val (.int .i64 a0), .val (.int .i64 a1), .val (.string a2)], .agg [.val (.int .i64 b0), .val (.int .i64 b1), .val (.string b2)]] [] R) = (
    br (a0 != b0) (R (some { av := vB false, obs := [], outs := [] })) (br (a1 != b1) (R (some { av := vB false, obs := [], outs := [] })) (br (!strEq a2 b2) (R (some { av := vB false, obs := [], outs := [] })) (R (some { av := vB true, obs := [], outs := [] }))))) := by kernel_rfl
theorem h160 : G1Ok Tryz.prog 160 g160 := by
  intro args obs k h
  unfold g160 at h
  split at h
  · rename_i k a0 a1 a2 b0 b1 b2
    refine ⟨_, ctr_fn ok0 hg160 Tryz.func160 (by kernel_rfl) (by kernel_rfl) (by kernel_rfl) fun C => ?_, h⟩
    rw [e160]
    repeat' (first | refine br_intro (fun h => ?_) (fun h => ?_))
    all_goals simp_all [elemEq, ckEq]
    all_goals grind
  · exact h.elim
def g88 : G1
  | [.rsl [.int .i64, .int .i64, .str] xs, .rsl [.int .i64, .int .i64, .str] ys], [], k => br (decide (xs.length ≤ 1048576)) (k ⟨.val (.bool (eqR kl xs ys)), [], []⟩) False
  | _, _, _ => False
noncomputable def E88 : Env := E0.of Tryz.f88
noncomputable def G88 : Gk := gk [(160, g160)]
noncomputable def lp88 (n : Nat) : Code := (loopOf n (codeOf Tryz.f88)).getD .skip
noncomputable def ct88 (L : Lp) (R : Option Res → Prop) (n : Nat) : Kt := contOf E88 G88 L n (codeOf Tryz.f88) (endK E88 Tryz.f88.results.toList R)
noncomputable def rk88 (L : Lp) (R : Option Res → Prop) (n : Nat) (N : St → Prop) : Kt := rk (jof E88 (lp88 n)) N (ct88 L R n)
noncomputable def rkn88 (L : Lp) (R : Option Res → Prop) (n : Nat) (N : St → Prop) (m : Nat) (N2 : St → Prop) : Kt := rk (jof E88 (lp88 m)) N2 (contOf E88 G88 L m (lp88 n) (rk88 L R n N))
noncomputable def LOOPN88 (L : Lp) (R : Option Res → Prop) (n : Nat) (N : St → Prop) (m : Nat) (st : St) : Prop := L (lp88 m) st (contOf E88 G88 L m (lp88 n) (rk88 L R n N))
noncomputable def LOOP88 (L : Lp) (R : Option Res → Prop) (n : Nat) (st : St) : Prop := L (lp88 n) st (ct88 L R n)
theorem hg88 : HG Tryz.prog G88 := (hg_cons h160 hg_nil)
theorem okf88 : Ok Tryz.prog E88 := ok0.of Tryz.f88
theorem e88 (L : Lp) (R : Option Res → Prop) (xs ys : List (Elem kl)) : (bodyP E0 G88 L Tryz.f88 [.rsl kl xs, .rsl kl ys] [] R) = (
    br ((↑xs.length : Int) != (↑ys.length : Int)) (R (some { av := vB false, obs := [], outs := [] })) (LOOP88 L R 4 { tm := [AV.rsl kl xs, AV.rsl kl ys, vU, vU, vB false, vI 0, vJ, vJ, vJ, vJ, vJ, vJ, vJ, vJ, vJ, vJ, vJ, vJ, vJ, vJ, vJ, vJ, vJ, vJ, vJ, vJ, vJ], ob := [], nx := 1000000, ps := [] })) := by kernel_rfl
def st88 (xs ys : List (Elem kl)) (i : Int) : St :=  ⟨[AV.rsl kl xs, AV.rsl kl ys, vU, vU, vB false, .val (.int .i64 i), vJ, vJ, vJ, vJ, vJ, vJ, vJ, vJ, vJ, vJ, vJ, vJ, vJ, vJ, vJ, vJ, vJ, vJ, vJ, vJ, vJ], [], 1000000, []⟩
theorem b88 (L : Lp) (R : Option Res → Prop) (N : St → Prop) (xs ys : List (Elem kl)) (i : Int) : (evP E88 G88 L (lp88 4) (st88 xs ys i) (rk88 L R 4 N)) = (
    br (decide (i < (↑xs.length : Int))) (br (decide (0 ≤ i ∧ i < (↑xs.length : Int))) (br (decide (0 ≤ i ∧ i < (↑ys.length : Int))) (br (!elemEq kl (xs.getD i.toNat (edflt kl)) (ys.getD i.toNat (edflt kl))) (R (some { av := vB false, obs := [], outs := [] })) (N { tm := [AV.rsl kl xs, AV.rsl kl ys, vU, vU, vB false, vI (IntKind.i64.wrap (i + 1)), vJ, vJ, vJ, vJ, vJ, vJ, vJ, vJ, vJ, vJ, vJ, vJ, vJ, vJ, vJ, vJ, vJ, vJ, vJ, vJ, vJ], ob := [], nx := 1000000, ps := [] })) False) False) (R (some { av := vB true, obs := [], outs := [] }))) := by kernel_rfl
theorem h88 : G1Ok Tryz.prog 88 g88 := by
  intro args obs k h
  unfold g88 at h
  split at h
  · rename_i k xs ys
    obtain ⟨hlen, h⟩ := brd h
    refine ⟨_, ctr_fn ok0 hg88 Tryz.func88 (by kernel_rfl) (by kernel_rfl) (by kernel_rfl) fun C => ?_, h⟩
    rw [e88]
    refine br_intro (fun hb => ?_) (fun hb => ?_)
    · show _ = _
      rw [show eqR kl xs ys = false from eqL_len (fun e => by rw [e] at hb; simp at hb)]
    have hl : xs.length = ys.length := by simp at hb; omega
    exact loopAll okf88 hg88 (fun i => st88 xs ys i) xs.length (fun i => elemEq kl (xs.getD i (edflt kl)) (ys.getD i (edflt kl))) (by omega) (fun N i hi hw next fails done => by
      show evP E88 G88 _ (lp88 4) (st88 xs ys i) (rk88 _ _ 4 _)
      rw [b88, hw, Int.toNat_natCast]
      refine br_dec (fun h2 => br_yes ⟨by omega, h2⟩ (br_yes ⟨by omega, by omega⟩ (br_not (fun h3 => ?_) (fun h3 => ?_)))) (fun h2 => ?_)
      · show _ = _
        rw [show eqR kl xs ys = false from (eqL_of hl).trans (fails (by omega) h3)]
      · exact next (by omega) h3
      · show _ = _
        rw [show eqR kl xs ys = true from (eqL_of hl).trans (done (by omega))])
  · exact h.elim
def g31 : G1
  | [.agg [.rsl [.str] a, .rsl [.str] b, .rsl [.int .i64, .int .i64, .str] c], .agg [.rsl [.str] a', .rsl [.str] b', .rsl [.int .i64, .int .i64, .str] c']], [], k =>
    br (smD a b c) (k ⟨.val (.bool (eqD a b c a' b' c')), [], []⟩) False
  | _, _, _ => False
noncomputable def E31 : Env := E0.of Tryz.f31
noncomputable def G31 : Gk := gk [(87, g87), (88, g88)]
noncomputable def lp31 (n : Nat) : Code := (loopOf n (codeOf Tryz.f31)).getD .skip
noncomputable def ct31 (L : Lp) (R : Option Res → Prop) (n : Nat) : Kt := contOf E31 G31 L n (codeOf Tryz.f31) (endK E31 Tryz.f31.results.toList R)
noncomputable def rk31 (L : Lp) (R : Option Res → Prop) (n : Nat) (N : St → Prop) : Kt := rk (jof E31 (lp31 n)) N (ct31 L R n)
noncomputable def rkn31 (L : Lp) (R : Option Res → Prop) (n : Nat) (N : St → Prop) (m : Nat) (N2 : St → Prop) : Kt := rk (jof E31 (lp31 m)) N2 (contOf E31 G31 L m (lp31 n) (rk31 L R n N))
noncomputable def LOOPN31 (L : Lp) (R : Option Res → Prop) (n : Nat) (N : St → Prop) (m : Nat) (st : St) : Prop := L (lp31 m) st (contOf E31 G31 L m (lp31 n) (rk31 L R n N))
noncomputable def LOOP31 (L : Lp) (R : Option Res → Prop) (n : Nat) (st : St) : Prop := L (lp31 n) st (ct31 L R n)
theorem hg31 : HG Tryz.prog G31 := (hg_cons h87 (hg_cons h88 hg_nil))
theorem okf31 : Ok Tryz.prog E31 := ok0.of Tryz.f31
theorem e31 (L : Lp) (R : Option Res → Prop) (a b a' b' : List (Elem ks)) (c c' : List (Elem kl)) : (bodyP E0 G31 L Tryz.f31 [.agg [.rsl ks a, .rsl ks b, .rsl kl c], .agg [.rsl ks a', .rsl ks b', .rsl kl c']] [] R) = (
    br (decide (a.length ≤ 1048576) && decide (b.length ≤ 1048576)) (br (!(eqR ks a a' && eqR ks b b')) (R (some { av := vB false, obs := [], outs := [] })) (br (decide (c.length ≤ 1048576)) (br (!eqR kl c c') (R (some { av := vB false, obs := [], outs := [] })) (R (some { av := vB true, obs := [], outs := [] }))) False)) False) := by kernel_rfl
theorem h31 : G1Ok Tryz.prog 31 g31 := by
  intro args obs k h
  unfold g31 at h
  split at h
  · rename_i k a b c a' b' c'
    unfold smD at h
    obtain ⟨hp, hc, h⟩ := brb2 h
    refine ⟨_, ctr_fn ok0 hg31 Tryz.func31 (by kernel_rfl) (by kernel_rfl) (by kernel_rfl) fun C => ?_, h⟩
    rw [e31]
    refine br_t hp (br_not (fun h => ?_) (fun h => br_t hc (br_not (fun h2 => ?_) (fun h2 => ?_))))
    · show _ = _
      unfold eqD
      rw [h]
      rfl
    · show _ = _
      unfold eqD
      rw [h2, Bool.and_false]
    · show _ = _
      unfold eqD
      rw [h, h2]
      rfl
  · exact h.elim
theorem eqD_self (a b : List (Elem ks)) (c : List (Elem kl)) : eqD a b c a b c = true := by
  unfold eqD
  rw [eqR_self, eqR_self, eqR_self]
  rfl
def dOk (a b : List (Elem ks)) (c : List (Elem kl)) : Prop := (a.length ≤ maxLen ∧ ∀ e ∈ a, elemOk ks e) ∧ (b.length ≤ maxLen ∧ ∀ e ∈ b, elemOk ks e) ∧ (c.length ≤ maxLen ∧ ∀ e ∈ c, elemOk kl e)
theorem inTs_of {a : List (Elem ks)} (h : a.length ≤ maxLen ∧ ∀ e ∈ a, elemOk ks e) : inTs a = true := by
  unfold inTs
  rw [Bool.and_eq_true, decide_eq_true_eq, List.all_eq_true]
  exact ⟨h.1, fun e he => decide_eq_true (h.2 e he).1⟩
theorem inLts_of {a : List (Elem kl)} (h : a.length ≤ maxLen ∧ ∀ e ∈ a, elemOk kl e) : inLts a = true := by
  unfold inLts
  rw [Bool.and_eq_true, decide_eq_true_eq, List.all_eq_true]
  exact ⟨h.1, fun e he => decide_eq_true (h.2 e he).2.2.1⟩
theorem inD_of {a b : List (Elem ks)} {c : List (Elem kl)} (h : dOk a b c) : inD a b c = true := by
  unfold inD
  rw [inTs_of h.1, inTs_of h.2.1, inLts_of h.2.2]
  rfl
theorem smD_of {a b : List (Elem ks)} {c : List (Elem kl)} {l : Int} (hl : l ≤ 1048576) (h : ¬ szR l (szD a b c) < 0) : smD a b c = true := by
  have := szR_ge0 h
  unfold szD szTs szLs at this
  unfold smD
  simp only [Bool.and_eq_true, decide_eq_true_eq]
  omega
end Go.Proofs.YtkjnijddbiconaaGreatDoor.Ev
