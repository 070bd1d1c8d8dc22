/- The law of DiskRead. -/
import Derived.Test.YtkjnijddbiconaaGreatDoorK2
namespace Go.Proofs.YtkjnijddbiconaaGreatDoor.Ev
open Go
set_option linter.unusedVariables false
set_option linter.unusedSimpArgs false
set_option maxRecDepth 100000
def hitL (e : Elem kl) (s i : Int) : Bool := e.1 == s && e.2.1 == i
def lkL (c : List (Elem kl)) (s i : Int) : Nat → Option ByteArray
  | 0 => none
  | n + 1 => match hitL (c.getD n (edflt kl)) s i with
    | true => some (c.getD n (edflt kl)).2.2.1
    | false => lkL c s i n
def sideAt (a b : List (Elem ks)) (s i : Int) : ByteArray := match s == 0 with
  | true => (a.getD i.toNat (edflt ks)).1
  | false => (b.getD i.toNat (edflt ks)).1
def rdD (a b : List (Elem ks)) (c : List (Elem kl)) (s i : Int) : ByteArray := match lkL c s i c.length with
  | some t => t
  | none => sideAt a b s i
def g150 : G1
  | [.agg [.rsl [.str] a, .rsl [.str] b, .rsl [.int .i64, .int .i64, .str] c], .val (.int .i64 s), .val (.int .i64 i)], [], k =>
    br (secOk a.length s i && (decide (b.length = a.length) && decide (c.length ≤ 1048576))) (k ⟨.val (.string (rdD a b c s i)), [], []⟩) False
  | _, _, _ => False
noncomputable def E150 : Env := E0.of Tryz.f150
noncomputable def G150 : Gk := gk []
noncomputable def lp150 (n : Nat) : Code := (loopOf n (codeOf Tryz.f150)).getD .skip
noncomputable def ct150 (L : Lp) (R : Option Res → Prop) (n : Nat) : Kt := contOf E150 G150 L n (codeOf Tryz.f150) (endK E150 Tryz.f150.results.toList R)
noncomputable def rk150 (L : Lp) (R : Option Res → Prop) (n : Nat) (N : St → Prop) : Kt := rk (jof E150 (lp150 n)) N (ct150 L R n)
noncomputable def rkn150 (L : Lp) (R : Option Res → Prop) (n : Nat) (N : St → Prop) (m : Nat) (N2 : St → Prop) : Kt := rk (jof E150 (lp150 m)) N2 (contOf E150 G150 L m (lp150 n) (rk150 L R n N))
noncomputable def LOOPN150 (L : Lp) (R : Option Res → Prop) (n : Nat) (N : St → Prop) (m : Nat) (st : St) : Prop := L (lp150 m) st (contOf E150 G150 L m (lp150 n) (rk150 L R n N))
noncomputable def LOOP150 (L : Lp) (R : Option Res → Prop) (n : Nat) (st : St) : Prop := L (lp150 n) st (ct150 L R n)
theorem hg150 : HG Tryz.prog G150 := hg_nil
theorem okf150 : Ok Tryz.prog E150 := ok0.of Tryz.f150
theorem e150 (L : Lp) (R : Option Res → Prop) (a b : List (Elem ks)) (c : List (Elem kl)) (s i : Int) : (bodyP E0 G150 L Tryz.f150 [.agg [.rsl ks a, .rsl ks b, .rsl kl c], .val (.int .i64 s), .val (.int .i64 i)] [] R) = (
    LOOP150 L R 2 { tm := [AV.agg [AV.rsl ks a, AV.rsl ks b, AV.rsl kl c], vI s, vI i, AV.ptr 0 0, vU, vU, vS { data := #[] }, vI (IntKind.i64.wrap ((↑c.length : Int) - 1)), vJ, vJ, vJ, vJ, vJ, vJ, vJ, vJ, vJ, vJ, vJ, vJ, vJ, vJ, vJ, vJ, vJ, vJ, vJ, vJ, vJ, vJ, vJ, vJ, vJ, vJ, vJ, vJ, vJ, vJ, vJ, vJ, vU, vU, vU, vU, vU, vU, vU], ob := [(0, AO.box [AV.rsl ks a, AV.rsl ks b, AV.rsl kl c])], nx := 1000000, ps := [] }) := by kernel_rfl
def st150 (a b : List (Elem ks)) (c : List (Elem kl)) (s i j : Int) : St :=  ⟨[AV.agg [AV.rsl ks a, AV.rsl ks b, AV.rsl kl c], vI s, vI i, AV.ptr 0 0, vU, vU, vS { data := #[] }, .val (.int .i64 j), vJ, vJ, vJ, vJ, vJ, vJ, vJ, vJ, vJ, vJ, vJ, vJ, vJ, vJ, vJ, vJ, vJ, vJ, vJ, vJ, vJ, vJ, vJ, vJ, vJ, vJ, vJ, vJ, vJ, vJ, vJ, vJ, vU, vU, vU, vU, vU, vU, vU], [(0, AO.box [AV.rsl ks a, AV.rsl ks b, AV.rsl kl c])], 1000000, []⟩
theorem b150 (L : Lp) (R : Option Res → Prop) (N : St → Prop) (a b : List (Elem ks)) (c : List (Elem kl)) (s i j : Int) : (evP E150 G150 L (lp150 2) (st150 a b c s i j) (rk150 L R 2 N)) = (
    br (decide (j ≥ 0)) (br (decide (0 ≤ j ∧ j < (↑c.length : Int))) (br ((c.getD j.toNat (edflt kl)).fst == s) (br (decide (0 ≤ j ∧ j < (↑c.length : Int))) (br ((c.getD j.toNat (edflt kl)).snd.fst == i) (br (decide (0 ≤ j ∧ j < (↑c.length : Int))) (R (some { av := vS (c.getD j.toNat (edflt kl)).snd.snd.fst, obs := [], outs := [] })) False) (N { tm := [AV.agg [AV.rsl ks a, AV.rsl ks b, AV.rsl kl c], vI s, vI i, AV.ptr 0 0, vU, vU, vS { data := #[] }, vI (IntKind.i64.wrap (j - 1)), vJ, vJ, vJ, vJ, vJ, vJ, vJ, vJ, vJ, vJ, vJ, vJ, vJ, vJ, vJ, vJ, vJ, vJ, vJ, vJ, vJ, vJ, vJ, vJ, vJ, vJ, vJ, vJ, vJ, vJ, vJ, vJ, vU, vU, vU, vU, vU, vU, vU], ob := [(0, AO.box [AV.rsl ks a, AV.rsl ks b, AV.rsl kl c])], nx := 1000000, ps := [] })) False) (N { tm := [AV.agg [AV.rsl ks a, AV.rsl ks b, AV.rsl kl c], vI s, vI i, AV.ptr 0 0, vU, vU, vS { data := #[] }, vI (IntKind.i64.wrap (j - 1)), vJ, vJ, vJ, vJ, vJ, vJ, vJ, vJ, vJ, vJ, vJ, vJ, vJ, vJ, vJ, vJ, vJ, vJ, vJ, vJ, vJ, vJ, vJ, vJ, vJ, vJ, vJ, vJ, vJ, vJ, vJ, vJ, vU, vU, vU, vU, vU, vU, vU], ob := [(0, AO.box [AV.rsl ks a, AV.rsl ks b, AV.rsl kl c])], nx := 1000000, ps := [] })) False) (br (s == 0) (br (decide (0 ≤ i ∧ i < (↑a.length : Int))) (R (some { av := vS (a.getD i.toNat (edflt ks)).fst, obs := [], outs := [] })) False) (br (s == 1) (br (decide (0 ≤ i ∧ i < (↑b.length : Int))) (R (some { av := vS (b.getD i.toNat (edflt ks)).fst, obs := [], outs := [] })) False) False))) := by kernel_rfl
theorem h150 : G1Ok Tryz.prog 150 g150 := by
  intro args obs k h
  unfold g150 at h
  split at h
  · rename_i k a b c s i
    obtain ⟨hs, hq, h⟩ := brb2 h
    rw [Bool.and_eq_true, decide_eq_true_eq, decide_eq_true_eq] at hq
    have hs' := hs
    simp only [secOk, Bool.and_eq_true, decide_eq_true_eq] at hs'
    refine ⟨_, ctr_fn ok0 hg150 Tryz.func150 (by kernel_rfl) (by kernel_rfl) (by kernel_rfl) fun C => ?_, h⟩
    rw [e150]
    refine loopDown okf150 hg150 (fun j => st150 a b c s i j) c.length (fun q => lkL c s i c.length = lkL c s i q) (fun N h0 => ?_) (fun N q hq' hI next => ?_) _ (wrap_id (by omega) (by omega)) rfl
    · show evP E150 G150 _ (lp150 2) (st150 a b c s i (-1)) (rk150 _ _ 2 _)
      rw [b150]
      have e : rdD a b c s i = sideAt a b s i := by
        unfold rdD
        rw [h0]
        rfl
      refine br_no (by omega) (br_intro (fun h1 => br_yes ⟨by omega, by omega⟩ ?_) (fun h1 => br_intro (fun h2 => br_yes ⟨by omega, by omega⟩ ?_) (fun h2 => ?_)))
      · show _ = _
        rw [e]
        unfold sideAt
        rw [h1]
      · show _ = _
        rw [e]
        unfold sideAt
        rw [h1]
      · simp at h1 h2
        omega
    · show evP E150 G150 _ (lp150 2) (st150 a b c s i q) (rk150 _ _ 2 _)
      rw [b150, Int.toNat_natCast, wrap_id (n := (q : Int) - 1) (by omega) (by omega)]
      have miss : hitL (c.getD q (edflt kl)) s i = false → N (st150 a b c s i ((q : Int) - 1)) := fun h1 => next (by
        rw [hI]
        show (match hitL (c.getD q (edflt kl)) s i with | true => some (c.getD q (edflt kl)).2.2.1 | false => lkL c s i q) = _
        rw [h1])
      refine br_yes (by omega) (br_yes ⟨by omega, by omega⟩ (br_intro (fun h1 => br_yes ⟨by omega, by omega⟩ (br_intro (fun h2 => br_yes ⟨by omega, by omega⟩ ?_) (fun h2 => miss ?_))) (fun h1 => miss ?_)))
      · show _ = _
        have : lkL c s i (q + 1) = some (c.getD q (edflt kl)).2.2.1 := by
          show (match hitL (c.getD q (edflt kl)) s i with | true => some (c.getD q (edflt kl)).2.2.1 | false => lkL c s i q) = _
          unfold hitL
          rw [h1, h2]
          rfl
        unfold rdD
        rw [hI, this]
      · unfold hitL
        rw [h2, Bool.and_false]
      · unfold hitL
        rw [h1]
        rfl
  · exact h.elim
noncomputable def E123 : Env := E0.of Tryz.f123
noncomputable def G123 : Gk := gk []
noncomputable def lp123 (n : Nat) : Code := (loopOf n (codeOf Tryz.f123)).getD .skip
noncomputable def ct123 (L : Lp) (R : Option Res → Prop) (n : Nat) : Kt := contOf E123 G123 L n (codeOf Tryz.f123) (endK E123 Tryz.f123.results.toList R)
noncomputable def rk123 (L : Lp) (R : Option Res → Prop) (n : Nat) (N : St → Prop) : Kt := rk (jof E123 (lp123 n)) N (ct123 L R n)
noncomputable def rkn123 (L : Lp) (R : Option Res → Prop) (n : Nat) (N : St → Prop) (m : Nat) (N2 : St → Prop) : Kt := rk (jof E123 (lp123 m)) N2 (contOf E123 G123 L m (lp123 n) (rk123 L R n N))
noncomputable def LOOPN123 (L : Lp) (R : Option Res → Prop) (n : Nat) (N : St → Prop) (m : Nat) (st : St) : Prop := L (lp123 m) st (contOf E123 G123 L m (lp123 n) (rk123 L R n N))
noncomputable def LOOP123 (L : Lp) (R : Option Res → Prop) (n : Nat) (st : St) : Prop := L (lp123 n) st (ct123 L R n)
theorem hg123 : HG Tryz.prog G123 := hg_nil
theorem okf123 : Ok Tryz.prog E123 := ok0.of Tryz.f123
theorem e123 (L : Lp) (R : Option Res → Prop) (a b : List (Elem ks)) (c : List (Elem kl)) (s i : Int) : (bodyP E0 G123 L Tryz.f123 [.agg [.rsl ks a, .rsl ks b, .rsl kl c], .val (.int .i64 s), .val (.int .i64 i)] [] R) = (
    LOOP123 L R 2 { tm := [AV.agg [AV.rsl ks a, AV.rsl ks b, AV.rsl kl c], vI s, vI i, AV.ptr 0 0, vU, vU, vS { data := #[] }, vI (IntKind.i64.wrap ((↑c.length : Int) - 1)), vJ, vJ, vJ, vJ, vJ, vJ, vJ, vJ, vJ, vJ, vJ, vJ, vJ, vJ, vJ, vJ, vJ, vJ, vJ, vJ, vJ, vJ, vJ, vJ, vJ, vJ, vU, vU, vU, vU, vU, vU, vU], ob := [(0, AO.box [AV.rsl ks a, AV.rsl ks b, AV.rsl kl c])], nx := 1000000, ps := [] }) := by kernel_rfl
def st123 (a b : List (Elem ks)) (c : List (Elem kl)) (s i j : Int) : St :=  ⟨[AV.agg [AV.rsl ks a, AV.rsl ks b, AV.rsl kl c], vI s, vI i, AV.ptr 0 0, vU, vU, vS { data := #[] }, .val (.int .i64 j), vJ, vJ, vJ, vJ, vJ, vJ, vJ, vJ, vJ, vJ, vJ, vJ, vJ, vJ, vJ, vJ, vJ, vJ, vJ, vJ, vJ, vJ, vJ, vJ, vJ, vJ, vU, vU, vU, vU, vU, vU, vU], [(0, AO.box [AV.rsl ks a, AV.rsl ks b, AV.rsl kl c])], 1000000, []⟩
theorem b123 (L : Lp) (R : Option Res → Prop) (N : St → Prop) (a b : List (Elem ks)) (c : List (Elem kl)) (s i j : Int) : (evP E123 G123 L (lp123 2) (st123 a b c s i j) (rk123 L R 2 N)) = (
    br (decide (j ≥ 0)) (br (decide (0 ≤ j ∧ j < (↑c.length : Int))) (br ((c.getD j.toNat (edflt kl)).fst == s) (br ((c.getD j.toNat (edflt kl)).snd.fst == i) (R (some { av := vS (c.getD j.toNat (edflt kl)).snd.snd.fst, obs := [], outs := [] })) (N { tm := [AV.agg [AV.rsl ks a, AV.rsl ks b, AV.rsl kl c], vI s, vI i, AV.ptr 0 0, vU, vU, vS { data := #[] }, vI (IntKind.i64.wrap (j - 1)), vJ, vJ, vJ, vJ, vJ, vJ, vJ, vJ, vJ, vJ, vJ, vJ, vJ, vJ, vJ, vJ, vJ, vJ, vJ, vJ, vJ, vJ, vJ, vJ, vJ, vJ, vU, vU, vU, vU, vU, vU, vU], ob := [(0, AO.box [AV.rsl ks a, AV.rsl ks b, AV.rsl kl c])], nx := 1000000, ps := [] })) (N { tm := [AV.agg [AV.rsl ks a, AV.rsl ks b, AV.rsl kl c], vI s, vI i, AV.ptr 0 0, vU, vU, vS { data := #[] }, vI (IntKind.i64.wrap (j - 1)), vJ, vJ, vJ, vJ, vJ, vJ, vJ, vJ, vJ, vJ, vJ, vJ, vJ, vJ, vJ, vJ, vJ, vJ, vJ, vJ, vJ, vJ, vJ, vJ, vJ, vJ, vU, vU, vU, vU, vU, vU, vU], ob := [(0, AO.box [AV.rsl ks a, AV.rsl ks b, AV.rsl kl c])], nx := 1000000, ps := [] })) False) (br (s == 0) (br (decide (0 ≤ i ∧ i < (↑a.length : Int))) (R (some { av := vS (a.getD i.toNat (edflt ks)).fst, obs := [], outs := [] })) False) (br (s == 1) (br (decide (0 ≤ i ∧ i < (↑b.length : Int))) (R (some { av := vS (b.getD i.toNat (edflt ks)).fst, obs := [], outs := [] })) False) False))) := by kernel_rfl
theorem h123 : G1Ok Tryz.prog 123 g150 := by
  intro args obs k h
  unfold g150 at h
  split at h
  · rename_i k a b c s i
    obtain ⟨hs, hq, h⟩ := brb2 h
    rw [Bool.and_eq_true, decide_eq_true_eq, decide_eq_true_eq] at hq
    have hs' := hs
    simp only [secOk, Bool.and_eq_true, decide_eq_true_eq] at hs'
    refine ⟨_, ctr_fn ok0 hg123 Tryz.func123 (by kernel_rfl) (by kernel_rfl) (by kernel_rfl) fun C => ?_, h⟩
    rw [e123]
    refine loopDown okf123 hg123 (fun j => st123 a b c s i j) c.length (fun q => lkL c s i c.length = lkL c s i q) (fun N h0 => ?_) (fun N q hq' hI next => ?_) _ (wrap_id (by omega) (by omega)) rfl
    · show evP E123 G123 _ (lp123 2) (st123 a b c s i (-1)) (rk123 _ _ 2 _)
      rw [b123]
      have e : rdD a b c s i = sideAt a b s i := by
        unfold rdD
        rw [h0]
        rfl
      refine br_no (by omega) (br_intro (fun h1 => br_yes ⟨by omega, by omega⟩ ?_) (fun h1 => br_intro (fun h2 => br_yes ⟨by omega, by omega⟩ ?_) (fun h2 => ?_)))
      · show _ = _
        rw [e]
        unfold sideAt
        rw [h1]
      · show _ = _
        rw [e]
        unfold sideAt
        rw [h1]
      · simp at h1 h2
        omega
    · show evP E123 G123 _ (lp123 2) (st123 a b c s i q) (rk123 _ _ 2 _)
      rw [b123, Int.toNat_natCast, wrap_id (n := (q : Int) - 1) (by omega) (by omega)]
      have miss : hitL (c.getD q (edflt kl)) s i = false → N (st123 a b c s i ((q : Int) - 1)) := fun h1 => next (by
        rw [hI]
        show (match hitL (c.getD q (edflt kl)) s i with | true => some (c.getD q (edflt kl)).2.2.1 | false => lkL c s i q) = _
        rw [h1])
      refine br_yes (by omega) (br_yes ⟨by omega, by omega⟩ (br_intro (fun h1 => id (br_intro (fun h2 => id ?_) (fun h2 => miss ?_))) (fun h1 => miss ?_)))
      · show _ = _
        have : lkL c s i (q + 1) = some (c.getD q (edflt kl)).2.2.1 := by
          show (match hitL (c.getD q (edflt kl)) s i with | true => some (c.getD q (edflt kl)).2.2.1 | false => lkL c s i q) = _
          unfold hitL
          rw [h1, h2]
          rfl
        unfold rdD
        rw [hI, this]
      · unfold hitL
        rw [h2, Bool.and_false]
      · unfold hitL
        rw [h1]
        rfl
  · exact h.elim
noncomputable def E190 : Env := E0.of Tryz.f190
noncomputable def G190 : Gk := gk [(79, g84), (148, g148), (150, g150)]
noncomputable def lp190 (n : Nat) : Code := (loopOf n (codeOf Tryz.f190)).getD .skip
noncomputable def ct190 (L : Lp) (R : Option Res → Prop) (n : Nat) : Kt := contOf E190 G190 L n (codeOf Tryz.f190) (endK E190 Tryz.f190.results.toList R)
noncomputable def rk190 (L : Lp) (R : Option Res → Prop) (n : Nat) (N : St → Prop) : Kt := rk (jof E190 (lp190 n)) N (ct190 L R n)
noncomputable def rkn190 (L : Lp) (R : Option Res → Prop) (n : Nat) (N : St → Prop) (m : Nat) (N2 : St → Prop) : Kt := rk (jof E190 (lp190 m)) N2 (contOf E190 G190 L m (lp190 n) (rk190 L R n N))
noncomputable def LOOPN190 (L : Lp) (R : Option Res → Prop) (n : Nat) (N : St → Prop) (m : Nat) (st : St) : Prop := L (lp190 m) st (contOf E190 G190 L m (lp190 n) (rk190 L R n N))
noncomputable def LOOP190 (L : Lp) (R : Option Res → Prop) (n : Nat) (st : St) : Prop := L (lp190 n) st (ct190 L R n)
theorem hg190 : HG Tryz.prog G190 := (hg_cons h79 (hg_cons h148 (hg_cons h150 hg_nil)))
theorem okf190 : Ok Tryz.prog E190 := ok0.of Tryz.f190
theorem e190 (L : Lp) (R : Option Res → Prop) (a b : List (Elem ks)) (c : List (Elem kl)) (s i : Int) : (bodyP E0 G190 L Tryz.f190 [.agg [.rsl ks a, .rsl ks b, .rsl kl c], .val (.int .i64 s), .val (.int .i64 i)] [] R) = (
    br (smD a b c) (br (!dkOk a b c) (R (some { av := AV.tup [vS { data := #[] }, vB false], obs := [], outs := [] })) (br (!(secOk a.length s i && true)) (R (some { av := AV.tup [vS { data := #[] }, vB false], obs := [], outs := [] })) (br (secOk a.length s i && (decide (b.length = a.length) && decide (c.length ≤ 1048576))) (R (some { av := AV.tup [vS (rdD a b c s i), vB true], obs := [], outs := [] })) False))) False) := by kernel_rfl
theorem dkOk_b {a b : List (Elem ks)} {c : List (Elem kl)} (h : dkOk a b c = true) : b.length = a.length ∧ c.length ≤ 600 ∧ a.length ≤ 120 := by
  simp only [dkOk, Bool.and_eq_true, decide_eq_true_eq] at h
  exact ⟨h.1.1.1.1.2, h.1.1.1.2, h.1.1.1.1.1.2⟩
def g190 : G1
  | [.agg [.rsl [.str] a, .rsl [.str] b, .rsl [.int .i64, .int .i64, .str] c], .val (.int .i64 s), .val (.int .i64 i)], [], k =>
    br (smD a b c) (k ⟨.tup [.val (.string (match dkOk a b c && secOk a.length s i with | true => rdD a b c s i | false => ByteArray.empty)), .val (.bool (dkOk a b c && secOk a.length s i))], [], []⟩) False
  | _, _, _ => False
theorem h190 : G1Ok Tryz.prog 190 g190 := by
  intro args obs k h
  unfold g190 at h
  split at h
  · rename_i k a b c s i
    obtain ⟨hp, h⟩ := br_and h
    refine ⟨_, ctr_fn ok0 hg190 Tryz.func190 (by kernel_rfl) (by kernel_rfl) (by kernel_rfl) fun C => ?_, h⟩
    rw [e190]
    refine br_t hp (br_not (fun h1 => ?_) (fun h1 => br_not (fun h2 => ?_) (fun h2 => br_t ?_ ?_)))
    · show _ = _
      rw [h1]
      rfl
    · rw [Bool.and_true] at h2
      show _ = _
      rw [h2, Bool.and_false]
      rfl
    · rw [Bool.and_true] at h2
      obtain ⟨q1, q2, q3⟩ := dkOk_b h1
      rw [h2, q1]
      simp
      omega
    · rw [Bool.and_true] at h2
      show _ = _
      rw [h1, h2]
      rfl
  · exact h.elim
end Go.Proofs.YtkjnijddbiconaaGreatDoor.Ev
