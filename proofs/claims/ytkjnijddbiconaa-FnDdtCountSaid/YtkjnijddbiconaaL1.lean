/- Lists of dedup entries that are drawn: counts, entries that are added. -/
import Derived.Test.YtkjnijddbiconaaL0
import Derived.Test.YtkjnijddbiconaaD5
namespace Go.Proofs.Ytkjnijddbiconaa.Ev
open Go
set_option linter.unusedVariables false
set_option linter.unusedSimpArgs false
set_option maxRecDepth 100000
def lnD (xs : List (Elem k3)) (t : Int) : Nat := ln (fun i => decide ((at3 xs i).2.1 < t)) xs.length
def okD (xs : List (Elem k3)) (t : Int) : Bool := decide (lnD xs t < xs.length) && ((at3 xs (lnD xs t)).2.1 == t)
def g21 : G1
  | [.rsl [.int .i64, .int .i64, .int .i64] xs, .val (.int .i64 t)], [], k => br (decide (xs.length ≤ 1048576)) (k ⟨.tup [.val (.int .i64 (lnD xs t)), .val (.bool (okD xs t))], [], []⟩) False
  | _, _, _ => False
def g20 : G1
  | [.rsl [.int .i64, .int .i64, .int .i64] xs], [], k => br (decide (xs.length ≤ 1048576)) (k ⟨.ows 0, [.row k3 xs], []⟩) False
  | _, _, _ => False
noncomputable def E21 : Env := Ef.of Try.f21
noncomputable def G21 : Gk := gk []
noncomputable def lp21 (n : Nat) : Code := (loopOf n (codeOf Try.f21)).getD .skip
noncomputable def ct21 (L : Lp) (R : Option Res → Prop) (n : Nat) : Kt := contOf E21 G21 L n (codeOf Try.f21) (endK E21 Try.f21.results.toList R)
noncomputable def rk21 (L : Lp) (R : Option Res → Prop) (n : Nat) (N : St → Prop) : Kt := rk (jof E21 (lp21 n)) N (ct21 L R n)
noncomputable def rkn21 (L : Lp) (R : Option Res → Prop) (n : Nat) (N : St → Prop) (m : Nat) (N2 : St → Prop) : Kt := rk (jof E21 (lp21 m)) N2 (contOf E21 G21 L m (lp21 n) (rk21 L R n N))
noncomputable def LOOPN21 (L : Lp) (R : Option Res → Prop) (n : Nat) (N : St → Prop) (m : Nat) (st : St) : Prop := L (lp21 m) st (contOf E21 G21 L m (lp21 n) (rk21 L R n N))
noncomputable def LOOP21 (L : Lp) (R : Option Res → Prop) (n : Nat) (st : St) : Prop := L (lp21 n) st (ct21 L R n)
theorem hg21 : HG Try.prog G21 := hg_nil
theorem okf21 : Ok Try.prog E21 := okf.of Try.f21
theorem e21 (L : Lp) (R : Option Res → Prop) (xs : List (Elem k3)) (t : Int) : (bodyP Ef G21 L Try.f21 [.rsl k3 xs, .val (.int .i64 t)] [] R) = (
    LOOP21 L R 2 { tm := [AV.rsl k3 xs, vI t, vJ, vJ, vJ, vJ, vI 0, vJ, vJ, vJ, vJ, vJ, vJ, vJ, vJ, vJ, vJ, vJ, vJ, vJ, vJ, vJ, vJ, vJ, vJ, vJ, vJ, vJ, vJ, vJ, vJ, vJ, vJ, vJ, vJ, vJ], ob := [], nx := 1000000, ps := [] }) := by kernel_rfl
def st21 (xs : List (Elem k3)) (t i : Int) : St :=  ⟨[AV.rsl k3 xs, vI t, vJ, vJ, vJ, vJ, .val (.int .i64 i), vJ, vJ, vJ, vJ, vJ, vJ, vJ, vJ, vJ, vJ, vJ, vJ, vJ, vJ, vJ, vJ, vJ, vJ, vJ, vJ, vJ, vJ, vJ, vJ, vJ, vJ, vJ, vJ, vJ], [], 1000000, []⟩
theorem b21 (L : Lp) (R : Option Res → Prop) (N : St → Prop) (xs : List (Elem k3)) (t i : Int) : (evP E21 G21 L (lp21 2) (st21 xs t i) (rk21 L R 2 N)) = (
    br (decide (i < (↑xs.length : Int))) (br (decide (0 ≤ i ∧ i < (↑xs.length : Int))) (br (decide ((xs.getD i.toNat (edflt k3)).snd.fst < t)) (N { tm := [AV.rsl k3 xs, vI t, vJ, vJ, vJ, vJ, vI (IntKind.i64.wrap (i + 1)), vJ, vJ, vJ, vJ, vJ, vJ, vJ, vJ, vJ, vJ, vJ, vJ, vJ, vJ, vJ, vJ, vJ, vJ, vJ, vJ, vJ, vJ, vJ, vJ, vJ, vJ, vJ, vJ, vJ], ob := [], nx := 1000000, ps := [] }) (br (decide (i < (↑xs.length : Int))) (br (decide (0 ≤ i ∧ i < (↑xs.length : Int))) (R (some { av := AV.tup [vI i, vB ((xs.getD i.toNat (edflt k3)).snd.fst == t)], obs := [], outs := [] })) False) (R (some { av := AV.tup [vI i, vB false], obs := [], outs := [] })))) False) (br (decide (i < (↑xs.length : Int))) (br (decide (0 ≤ i ∧ i < (↑xs.length : Int))) (R (some { av := AV.tup [vI i, vB ((xs.getD i.toNat (edflt k3)).snd.fst == t)], obs := [], outs := [] })) False) (R (some { av := AV.tup [vI i, vB false], obs := [], outs := [] })))) := by kernel_rfl
theorem h21 : G1Ok Try.prog 21 g21 := by
  intro args obs k h
  unfold g21 at h
  split at h
  · rename_i k xs t
    obtain ⟨hl, h⟩ := brd h
    refine ⟨_, ctr_fn okf hg21 Try.func21 (by kernel_rfl) (by kernel_rfl) (by kernel_rfl) fun C => ?_, h⟩
    rw [e21]
    refine loopLn okf21 hg21 (fun i => st21 xs t i) xs.length (fun i => decide ((at3 xs i).2.1 < t)) (by omega) (fun N i hi hw next stop last => ?_)
    show evP E21 G21 _ (lp21 2) (st21 xs t i) (rk21 _ _ 2 _)
    rw [b21, hw, Int.toNat_natCast]
    refine br_dec (fun h2 => br_yes ⟨by omega, h2⟩ (br_dec (fun h3 => ?_) (fun h3 => br_yes h2 (br_yes ⟨by omega, h2⟩ ?_)))) (fun h2 => br_no h2 ?_)
    · exact next (by omega) (decide_eq_true h3)
    · show _ = _
      have e : lnD xs t = i := stop (by omega) (decide_eq_false h3)
      unfold okD
      rw [e, decide_eq_true (show i < xs.length by omega), Bool.true_and]
      rfl
    · show _ = _
      have e : lnD xs t = i := last (by omega)
      unfold okD
      rw [e, decide_eq_false (show ¬ i < xs.length by omega), Bool.false_and]
  · exact h.elim
noncomputable def E20 : Env := Ef.of Try.f20
noncomputable def G20 : Gk := gk []
noncomputable def lp20 (n : Nat) : Code := (loopOf n (codeOf Try.f20)).getD .skip
noncomputable def ct20 (L : Lp) (R : Option Res → Prop) (n : Nat) : Kt := contOf E20 G20 L n (codeOf Try.f20) (endK E20 Try.f20.results.toList R)
noncomputable def rk20 (L : Lp) (R : Option Res → Prop) (n : Nat) (N : St → Prop) : Kt := rk (jof E20 (lp20 n)) N (ct20 L R n)
noncomputable def rkn20 (L : Lp) (R : Option Res → Prop) (n : Nat) (N : St → Prop) (m : Nat) (N2 : St → Prop) : Kt := rk (jof E20 (lp20 m)) N2 (contOf E20 G20 L m (lp20 n) (rk20 L R n N))
noncomputable def LOOPN20 (L : Lp) (R : Option Res → Prop) (n : Nat) (N : St → Prop) (m : Nat) (st : St) : Prop := L (lp20 m) st (contOf E20 G20 L m (lp20 n) (rk20 L R n N))
noncomputable def LOOP20 (L : Lp) (R : Option Res → Prop) (n : Nat) (st : St) : Prop := L (lp20 n) st (ct20 L R n)
theorem hg20 : HG Try.prog G20 := hg_nil
theorem okf20 : Ok Try.prog E20 := okf.of Try.f20
theorem e20 (L : Lp) (R : Option Res → Prop) (xs : List (Elem k3)) : (bodyP Ef G20 L Try.f20 [.rsl k3 xs] [] R) = (
    br (decide ((0 + xs.length) * 24 ≤ 140737488355328)) (R (some { av := AV.ows 0, obs := [AO.row k3 ([] ++ xs)], outs := [] })) False) := by kernel_rfl
theorem h20 : G1Ok Try.prog 20 g20 := by
  intro args obs k h
  unfold g20 at h
  split at h
  · rename_i k xs
    obtain ⟨hl, h⟩ := brd h
    refine ⟨_, ctr_fn okf hg20 Try.func20 (by kernel_rfl) (by kernel_rfl) (by kernel_rfl) fun C => ?_, h⟩
    rw [e20]
    exact br_yes (by omega) rfl
  · exact h.elim
def dcN (xs : List (Elem k3)) (t : Int) : Int := match ddtOk xs && okD xs t with
  | true => (at3 xs (lnD xs t)).2.2.1
  | false => 0
def g39 : G1
  | [.rsl [.int .i64, .int .i64, .int .i64] xs, .val (.int .i64 t)], [], k => br (decide (xs.length ≤ 1048576)) (k ⟨.val (.int .i64 (dcN xs t)), [], []⟩) False
  | _, _, _ => False
def incE (e : Elem k3) : Elem k3 := (e.1, e.2.1, IntKind.i64.wrap (e.2.2.1 + 1), ())
def daR (xs : List (Elem k3)) (s t : Int) : List (Elem k3) × Bool := match ddtOk xs with
  | false => ([], false)
  | true => match entryOk (s, t, 1, ()) with
    | false => (xs, false)
    | true => match okD xs t with
      | true => match (at3 xs (lnD xs t)).1 != s || (at3 xs (lnD xs t)).2.2.1 == 1000 with
        | true => (xs, false)
        | false => (xs.set (lnD xs t) (incE (at3 xs (lnD xs t))), true)
      | false => match (xs.length : Int) == 48 with
        | true => (xs, false)
        | false => (xs.take (lnD xs t) ++ [(s, t, 1, ())] ++ xs.drop (lnD xs t), true)
def g13 : G1
  | [.rsl [.int .i64, .int .i64, .int .i64] xs, .val (.int .i64 s), .val (.int .i64 t)], [], k => br (decide (xs.length ≤ 1048576)) (k ⟨.tup [.ows 0, .val (.bool (daR xs s t).2)], [.row k3 (daR xs s t).1], []⟩) False
  | _, _, _ => False
theorem lnD_le (xs : List (Elem k3)) (t : Int) : lnD xs t ≤ xs.length := ln_le _ _
theorem okD_lt {xs : List (Elem k3)} {t : Int} (h : okD xs t = true) : lnD xs t < xs.length := by
  unfold okD at h
  rw [Bool.and_eq_true, decide_eq_true_eq] at h
  exact h.1
noncomputable def E39 : Env := Ef.of Try.f39
noncomputable def G39 : Gk := gk [(21, g21), (18, g17)]
noncomputable def lp39 (n : Nat) : Code := (loopOf n (codeOf Try.f39)).getD .skip
noncomputable def ct39 (L : Lp) (R : Option Res → Prop) (n : Nat) : Kt := contOf E39 G39 L n (codeOf Try.f39) (endK E39 Try.f39.results.toList R)
noncomputable def rk39 (L : Lp) (R : Option Res → Prop) (n : Nat) (N : St → Prop) : Kt := rk (jof E39 (lp39 n)) N (ct39 L R n)
noncomputable def rkn39 (L : Lp) (R : Option Res → Prop) (n : Nat) (N : St → Prop) (m : Nat) (N2 : St → Prop) : Kt := rk (jof E39 (lp39 m)) N2 (contOf E39 G39 L m (lp39 n) (rk39 L R n N))
noncomputable def LOOPN39 (L : Lp) (R : Option Res → Prop) (n : Nat) (N : St → Prop) (m : Nat) (st : St) : Prop := L (lp39 m) st (contOf E39 G39 L m (lp39 n) (rk39 L R n N))
noncomputable def LOOP39 (L : Lp) (R : Option Res → Prop) (n : Nat) (st : St) : Prop := L (lp39 n) st (ct39 L R n)
theorem hg39 : HG Try.prog G39 := (hg_cons h21 (hg_cons h18 hg_nil))
theorem okf39 : Ok Try.prog E39 := okf.of Try.f39
theorem e39 (L : Lp) (R : Option Res → Prop) (xs : List (Elem k3)) (t : Int) : (bodyP Ef G39 L Try.f39 [.rsl k3 xs, .val (.int .i64 t)] [] R) = (
    br (decide (xs.length ≤ 1048576)) (br (decide (xs.length ≤ 1048576)) (br (!ddtOk xs) (R (some { av := vI 0, obs := [], outs := [] })) (br (!okD xs t) (R (some { av := vI 0, obs := [], outs := [] })) (br (decide (0 ≤ (↑(lnD xs t) : Int) ∧ (↑(lnD xs t) : Int) < (↑xs.length : Int))) (R (some { av := vI (xs.getD (↑(lnD xs t) : Int).toNat (edflt k3)).snd.snd.fst, obs := [], outs := [] })) False))) False) False) := by kernel_rfl
theorem h39 : G1Ok Try.prog 39 g39 := by
  intro args obs k h
  unfold g39 at h
  split at h
  · rename_i k xs t
    obtain ⟨hl, h⟩ := br_and h
    refine ⟨_, ctr_fn okf hg39 Try.func39 (by kernel_rfl) (by kernel_rfl) (by kernel_rfl) fun C => ?_, h⟩
    rw [e39]
    unfold dcN
    refine br_t hl (br_t hl (br_not (fun h1 => ?_) (fun h1 => br_not (fun h2 => ?_) (fun h2 => br_yes ?_ ?_))))
    · rw [h1]
      rfl
    · rw [h1, h2]
      rfl
    · have := okD_lt h2
      omega
    · rw [h1, h2]
      rfl
  · exact h.elim
noncomputable def E13 : Env := Ef.of Try.f13
noncomputable def G13 : Gk := gk [(21, g21), (18, g17), (20, g20), (25, g32)]
noncomputable def lp13 (n : Nat) : Code := (loopOf n (codeOf Try.f13)).getD .skip
noncomputable def ct13 (L : Lp) (R : Option Res → Prop) (n : Nat) : Kt := contOf E13 G13 L n (codeOf Try.f13) (endK E13 Try.f13.results.toList R)
noncomputable def rk13 (L : Lp) (R : Option Res → Prop) (n : Nat) (N : St → Prop) : Kt := rk (jof E13 (lp13 n)) N (ct13 L R n)
noncomputable def rkn13 (L : Lp) (R : Option Res → Prop) (n : Nat) (N : St → Prop) (m : Nat) (N2 : St → Prop) : Kt := rk (jof E13 (lp13 m)) N2 (contOf E13 G13 L m (lp13 n) (rk13 L R n N))
noncomputable def LOOPN13 (L : Lp) (R : Option Res → Prop) (n : Nat) (N : St → Prop) (m : Nat) (st : St) : Prop := L (lp13 m) st (contOf E13 G13 L m (lp13 n) (rk13 L R n N))
noncomputable def LOOP13 (L : Lp) (R : Option Res → Prop) (n : Nat) (st : St) : Prop := L (lp13 n) st (ct13 L R n)
theorem hg13 : HG Try.prog G13 := (hg_cons h21 (hg_cons h18 (hg_cons h20 (hg_cons h25 hg_nil))))
theorem okf13 : Ok Try.prog E13 := okf.of Try.f13
theorem e13 (L : Lp) (R : Option Res → Prop) (xs : List (Elem k3)) (s t : Int) : (bodyP Ef G13 L Try.f13 [.rsl k3 xs, .val (.int .i64 s), .val (.int .i64 t)] [] R) = (
    br (decide (xs.length ≤ 1048576)) (br (!ddtOk xs) (R (some { av := AV.tup [AV.ows 0, vB false], obs := [AO.row k3 []], outs := [] })) (br (decide (xs.length ≤ 1048576)) (br (decide (xs.length ≤ 1048576)) (br (!entryOk (s, t, 1, ())) (R (some { av := AV.tup [AV.ows 0, vB false], obs := [AO.row k3 xs], outs := [] })) (br (okD xs t) (br (decide (0 ≤ (↑(lnD xs t) : Int) ∧ (↑(lnD xs t) : Int) < (↑xs.length : Int))) (br ((xs.getD (↑(lnD xs t) : Int).toNat (edflt k3)).fst != s) (R (some { av := AV.tup [AV.ows 0, vB false], obs := [AO.row k3 xs], outs := [] })) (br (decide (0 ≤ (↑(lnD xs t) : Int) ∧ (↑(lnD xs t) : Int) < (↑xs.length : Int))) (br ((xs.getD (↑(lnD xs t) : Int).toNat (edflt k3)).snd.snd.fst == 1000) (R (some { av := AV.tup [AV.ows 0, vB false], obs := [AO.row k3 xs], outs := [] })) (br (decide (0 ≤ (↑(lnD xs t) : Int) ∧ (↑(lnD xs t) : Int) < (↑xs.length : Int))) (br (decide (0 ≤ (↑(lnD xs t) : Int) ∧ (↑(lnD xs t) : Int) < (↑xs.length : Int))) (R (some { av := AV.tup [AV.ows 0, vB true], obs := [AO.row k3 (xs.set (↑(lnD xs t) : Int).toNat ((xs.getD (↑(lnD xs t) : Int).toNat (edflt k3)).fst, (xs.getD (↑(lnD xs t) : Int).toNat (edflt k3)).snd.fst, IntKind.i64.wrap ((xs.getD (↑(lnD xs t) : Int).toNat (edflt k3)).snd.snd.fst + 1), ()))], outs := [] })) False) False)) False)) False) (br ((↑xs.length : Int) == 48) (R (some { av := AV.tup [AV.ows 0, vB false], obs := [AO.row k3 xs], outs := [] })) (br (decide (0 ≤ (↑(lnD xs t) : Int) ∧ (↑(lnD xs t) : Int) ≤ (↑xs.length : Int) ∧ (↑xs.length : Int) ≤ (↑xs.length : Int) ∧ (↑xs.length : Int) ≤ (↑xs.length : Int))) (br (decide ((List.take ((↑xs.length : Int) - (↑(lnD xs t) : Int)).toNat (List.drop (↑(lnD xs t) : Int).toNat xs)).length ≤ 1048576)) (br (decide ((0 : Int) ≤ 0 ∧ 0 ≤ (↑(lnD xs t) : Int) ∧ (↑(lnD xs t) : Int) ≤ (↑xs.length : Int) ∧ (↑xs.length : Int) ≤ (↑xs.length : Int))) (br (decide (((List.take ((↑(lnD xs t) : Int) - 0).toNat (List.drop 0 xs)).length + [(s, t, 1, ())].length) * 24 ≤ 140737488355328)) (br (decide (((List.take ((↑(lnD xs t) : Int) - 0).toNat (List.drop 0 xs) ++ [(s, t, 1, ())]).length + (List.take ((↑xs.length : Int) - (↑(lnD xs t) : Int)).toNat (List.drop (↑(lnD xs t) : Int).toNat xs)).length) * 24 ≤ 140737488355328)) (R (some { av := AV.tup [AV.ows 0, vB true], obs := [AO.row k3 (List.take ((↑(lnD xs t) : Int) - 0).toNat (List.drop 0 xs) ++ [(s, t, 1, ())] ++ List.take ((↑xs.length : Int) - (↑(lnD xs t) : Int)).toNat (List.drop (↑(lnD xs t) : Int).toNat xs))], outs := [] })) False) False) False) False) False)))) False) False)) False) := by kernel_rfl
theorem h13 : G1Ok Try.prog 13 g13 := by
  intro args obs k h
  unfold g13 at h
  split at h
  · rename_i k xs s t
    obtain ⟨hl, h⟩ := br_and h
    have hl' := of_decide_eq_true hl
    have hk := lnD_le xs t
    refine ⟨_, ctr_fn okf hg13 Try.func13 (by kernel_rfl) (by kernel_rfl) (by kernel_rfl) fun C => ?_, h⟩
    rw [e13]
    rw [Int.toNat_natCast, Int.sub_zero, Int.toNat_natCast, show ((xs.length : Int) - (lnD xs t : Int)).toNat = xs.length - lnD xs t by omega, List.drop_zero, List.take_of_length_le (l := xs.drop (lnD xs t)) (by rw [List.length_drop]; exact Nat.le_refl _)]
    unfold daR
    refine br_t hl (br_not (fun h1 => ?_) (fun h1 => br_t hl (br_t hl (br_not (fun h2 => ?_) (fun h2 => br_intro (fun h3 => ?_) (fun h3 => br_intro (fun h4 => ?_) (fun h4 => ?_)))))))
    · rw [h1]
    · rw [h1, h2]
    · have hlt := okD_lt h3
      have hb : 0 ≤ (lnD xs t : Int) ∧ (lnD xs t : Int) < xs.length := by omega
      refine br_yes hb (br_intro (fun h4 => ?_) (fun h4 => br_yes hb (br_intro (fun h5 => ?_) (fun h5 => br_yes hb (br_yes hb ?_)))))
      · have h4 : ((at3 xs (lnD xs t)).1 != s) = true := h4
        rw [h1, h2, h3, h4]
        rfl
      · have h4 : ((at3 xs (lnD xs t)).1 != s) = false := h4
        have h5 : ((at3 xs (lnD xs t)).2.2.1 == 1000) = true := h5
        rw [h1, h2, h3, h4, h5]
        rfl
      · have h4 : ((at3 xs (lnD xs t)).1 != s) = false := h4
        have h5 : ((at3 xs (lnD xs t)).2.2.1 == 1000) = false := h5
        rw [h1, h2, h3, h4, h5]
        rfl
    · rw [h1, h2, h3, h4]
    · have e1 : (xs.drop (lnD xs t)).length ≤ xs.length := by rw [List.length_drop]; omega
      have e2 : (xs.take (lnD xs t)).length ≤ xs.length := by rw [List.length_take]; omega
      rw [h1, h2, h3, h4]
      refine br_yes ⟨by omega, by omega, by omega, by omega⟩ (br_yes (by omega) (br_yes ⟨by omega, by omega, by omega, by omega⟩ (br_yes ?_ (br_yes ?_ rfl))))
      · show ((xs.take (lnD xs t)).length + 1) * 24 ≤ _
        omega
      · rw [List.length_append]
        show ((xs.take (lnD xs t)).length + 1 + (xs.drop (lnD xs t)).length) * 24 ≤ _
        omega
  · exact h.elim
end Go.Proofs.Ytkjnijddbiconaa.Ev
