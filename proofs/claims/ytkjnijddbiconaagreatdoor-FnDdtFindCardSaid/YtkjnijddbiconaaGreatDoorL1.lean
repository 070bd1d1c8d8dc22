/- Lists of dedup entries that are drawn: counts, entries that are added. -/
import Derived.Test.YtkjnijddbiconaaGreatDoorL0
import Derived.Test.YtkjnijddbiconaaGreatDoorD5
namespace Go.Proofs.YtkjnijddbiconaaGreatDoor.Ev
open Go
set_option linter.unusedVariables false
set_option linter.unusedSimpArgs false
set_option maxRecDepth 100000
def lnD (xs : List (Elem k3)) (t : Int) : Nat := ln (fun i => decide ((at3 xs i).2.1 < t)) xs.length
def okD (xs : List (Elem k3)) (t : Int) : Bool := decide (lnD xs t < xs.length) && ((at3 xs (lnD xs t)).2.1 == t)
def g72 : G1
  | [.rsl [.int .i64, .int .i64, .int .i64] xs, .val (.int .i64 t)], [], k => br (decide (xs.length ≤ 1048576)) (k ⟨.tup [.val (.int .i64 (lnD xs t)), .val (.bool (okD xs t))], [], []⟩) False
  | _, _, _ => False
def g238 : G1
  | [.rsl [.int .i64, .int .i64, .int .i64] xs], [], k => br (decide (xs.length ≤ 1048576)) (k ⟨.ows 0, [.row k3 xs], []⟩) False
  | _, _, _ => False
noncomputable def E72 : Env := Ef.of Tryz.f72
noncomputable def G72 : Gk := gk []
noncomputable def lp72 (n : Nat) : Code := (loopOf n (codeOf Tryz.f72)).getD .skip
noncomputable def ct72 (L : Lp) (R : Option Res → Prop) (n : Nat) : Kt := contOf E72 G72 L n (codeOf Tryz.f72) (endK E72 Tryz.f72.results.toList R)
noncomputable def rk72 (L : Lp) (R : Option Res → Prop) (n : Nat) (N : St → Prop) : Kt := rk (jof E72 (lp72 n)) N (ct72 L R n)
noncomputable def LOOP72 (L : Lp) (R : Option Res → Prop) (n : Nat) (st : St) : Prop := L (lp72 n) st (ct72 L R n)
theorem hg72 : HG Tryz.prog G72 := hg_nil
theorem okf72 : Ok Tryz.prog E72 := okf.of Tryz.f72
theorem e72 (L : Lp) (R : Option Res → Prop) (xs : List (Elem k3)) (t : Int) : (bodyP Ef G72 L Tryz.f72 [.rsl k3 xs, .val (.int .i64 t)] [] R) = (
    LOOP72 L R 2 { tm := [AV.rsl k3 xs, vI t, vJ, vJ, vJ, vJ, vI 0, vJ, vJ, vJ, vJ, vJ, vJ, vJ, vJ, vJ, vJ, vJ, vJ, vJ, vJ, vJ, vJ, vJ, vJ, vJ, vJ, vJ, vJ, vJ, vJ, vJ, vJ, vJ, vJ, vJ], ob := [], nx := 1000000, ps := [] }) := by kernel_rfl
def st72 (xs : List (Elem k3)) (t i : Int) : St :=  ⟨[AV.rsl k3 xs, vI t, vJ, vJ, vJ, vJ, .val (.int .i64 i), vJ, vJ, vJ, vJ, vJ, vJ, vJ, vJ, vJ, vJ, vJ, vJ, vJ, vJ, vJ, vJ, vJ, vJ, vJ, vJ, vJ, vJ, vJ, vJ, vJ, vJ, vJ, vJ, vJ], [], 1000000, []⟩
theorem b72 (L : Lp) (R : Option Res → Prop) (N : St → Prop) (xs : List (Elem k3)) (t i : Int) : (evP E72 G72 L (lp72 2) (st72 xs t i) (rk72 L R 2 N)) = (
    br (decide (i < (↑xs.length : Int))) (br (decide (0 ≤ i ∧ i < (↑xs.length : Int))) (br (decide ((xs.getD i.toNat (edflt k3)).snd.fst < t)) (N { tm := [AV.rsl k3 xs, vI t, vJ, vJ, vJ, vJ, vI (IntKind.i64.wrap (i + 1)), vJ, vJ, vJ, vJ, vJ, vJ, vJ, vJ, vJ, vJ, vJ, vJ, vJ, vJ, vJ, vJ, vJ, vJ, vJ, vJ, vJ, vJ, vJ, vJ, vJ, vJ, vJ, vJ, vJ], ob := [], nx := 1000000, ps := [] }) (br (decide (i < (↑xs.length : Int))) (br (decide (0 ≤ i ∧ i < (↑xs.length : Int))) (R (some { av := AV.tup [vI i, vB ((xs.getD i.toNat (edflt k3)).snd.fst == t)], obs := [], outs := [] })) False) (R (some { av := AV.tup [vI i, vB false], obs := [], outs := [] })))) False) (br (decide (i < (↑xs.length : Int))) (br (decide (0 ≤ i ∧ i < (↑xs.length : Int))) (R (some { av := AV.tup [vI i, vB ((xs.getD i.toNat (edflt k3)).snd.fst == t)], obs := [], outs := [] })) False) (R (some { av := AV.tup [vI i, vB false], obs := [], outs := [] })))) := by kernel_rfl
theorem h72 : G1Ok Tryz.prog 72 g72 := by
  intro args obs k h
  unfold g72 at h
  split at h
  · rename_i k xs t
    obtain ⟨hl, h⟩ := brd h
    refine ⟨_, ctr_fn okf hg72 Tryz.func72 (by kernel_rfl) (by kernel_rfl) (by kernel_rfl) fun C => ?_, h⟩
    rw [e72]
    refine loopLn okf72 hg72 (fun i => st72 xs t i) xs.length (fun i => decide ((at3 xs i).2.1 < t)) (by omega) (fun N i hi hw next stop last => ?_)
    show evP E72 G72 _ (lp72 2) (st72 xs t i) (rk72 _ _ 2 _)
    rw [b72, hw, Int.toNat_natCast]
    refine br_dec (fun h2 => br_yes ⟨by omega, h2⟩ (br_dec (fun h3 => ?_) (fun h3 => br_yes h2 (br_yes ⟨by omega, h2⟩ ?_)))) (fun h2 => br_no h2 ?_)
    · exact next (by omega) (decide_eq_true h3)
    · show _ = _
      have e : lnD xs t = i := stop (by omega) (decide_eq_false h3)
      unfold okD
      rw [e, decide_eq_true (show i < xs.length by omega), Bool.true_and]
      rfl
    · show _ = _
      have e : lnD xs t = i := last (by omega)
      unfold okD
      rw [e, decide_eq_false (show ¬ i < xs.length by omega), Bool.false_and]
  · exact h.elim
noncomputable def G238 : Gk := gk []
theorem hg238 : HG Tryz.prog G238 := hg_nil
theorem e238 (L : Lp) (R : Option Res → Prop) (xs : List (Elem k3)) : (bodyP Ef G238 L Tryz.f238 [.rsl k3 xs] [] R) = (
    br (decide ((0 + xs.length) * 24 ≤ 140737488355328)) (R (some { av := AV.ows 0, obs := [AO.row k3 ([] ++ xs)], outs := [] })) False) := by kernel_rfl
theorem h238 : G1Ok Tryz.prog 238 g238 := by
  intro args obs k h
  unfold g238 at h
  split at h
  · rename_i k xs
    obtain ⟨hl, h⟩ := brd h
    refine ⟨_, ctr_fn okf hg238 Tryz.func238 (by kernel_rfl) (by kernel_rfl) (by kernel_rfl) fun C => ?_, h⟩
    rw [e238]
    exact br_yes (by omega) rfl
  · exact h.elim
def dcN (xs : List (Elem k3)) (t : Int) : Int := match ddtOk xs && okD xs t with
  | true => (at3 xs (lnD xs t)).2.2.1
  | false => 0
def g188 : G1
  | [.rsl [.int .i64, .int .i64, .int .i64] xs, .val (.int .i64 t)], [], k => br (decide (xs.length ≤ 1048576)) (k ⟨.val (.int .i64 (dcN xs t)), [], []⟩) False
  | _, _, _ => False
def incE (e : Elem k3) : Elem k3 := (e.1, e.2.1, IntKind.i64.wrap (e.2.2.1 + 1), ())
def daR (xs : List (Elem k3)) (s t : Int) : List (Elem k3) × Bool := match ddtOk xs with
  | false => ([], false)
  | true => match entryOk (s, t, 1, ()) with
    | false => (xs, false)
    | true => match okD xs t with
      | true => match (at3 xs (lnD xs t)).1 != s || (at3 xs (lnD xs t)).2.2.1 == 1000 with
        | true => (xs, false)
        | false => (xs.set (lnD xs t) (incE (at3 xs (lnD xs t))), true)
      | false => match (xs.length : Int) == 48 with
        | true => (xs, false)
        | false => (xs.take (lnD xs t) ++ [(s, t, 1, ())] ++ xs.drop (lnD xs t), true)
def g191 : G1
  | [.rsl [.int .i64, .int .i64, .int .i64] xs, .val (.int .i64 s), .val (.int .i64 t)], [], k => br (decide (xs.length ≤ 1048576)) (k ⟨.tup [.ows 0, .val (.bool (daR xs s t).2)], [.row k3 (daR xs s t).1], []⟩) False
  | _, _, _ => False
theorem lnD_le (xs : List (Elem k3)) (t : Int) : lnD xs t ≤ xs.length := ln_le _ _
theorem okD_lt {xs : List (Elem k3)} {t : Int} (h : okD xs t = true) : lnD xs t < xs.length := by
  unfold okD at h
  rw [Bool.and_eq_true, decide_eq_true_eq] at h
  exact h.1
noncomputable def G188 : Gk := gk [(72, g72), (46, g112)]
theorem hg188 : HG Tryz.prog G188 := (hg_cons h72 (hg_cons h46 hg_nil))
theorem e188 (L : Lp) (R : Option Res → Prop) (xs : List (Elem k3)) (t : Int) : (bodyP Ef G188 L Tryz.f188 [.rsl k3 xs, .val (.int .i64 t)] [] R) = (
    br (decide (xs.length ≤ 1048576)) (br (decide (xs.length ≤ 1048576)) (br (!ddtOk xs) (R (some { av := vI 0, obs := [], outs := [] })) (br (!okD xs t) (R (some { av := vI 0, obs := [], outs := [] })) (br (decide (0 ≤ (↑(lnD xs t) : Int) ∧ (↑(lnD xs t) : Int) < (↑xs.length : Int))) (R (some { av := vI (xs.getD (↑(lnD xs t) : Int).toNat (edflt k3)).snd.snd.fst, obs := [], outs := [] })) False))) False) False) := by kernel_rfl
theorem h188 : G1Ok Tryz.prog 188 g188 := by
  intro args obs k h
  unfold g188 at h
  split at h
  · rename_i k xs t
    obtain ⟨hl, h⟩ := br_and h
    refine ⟨_, ctr_fn okf hg188 Tryz.func188 (by kernel_rfl) (by kernel_rfl) (by kernel_rfl) fun C => ?_, h⟩
    rw [e188]
    unfold dcN
    refine br_t hl (br_t hl (br_not (fun h1 => ?_) (fun h1 => br_not (fun h2 => ?_) (fun h2 => br_yes ?_ ?_))))
    · rw [h1]
      rfl
    · rw [h1, h2]
      rfl
    · have := okD_lt h2
      omega
    · rw [h1, h2]
      rfl
  · exact h.elim
noncomputable def G191 : Gk := gk [(72, g72), (46, g112), (238, g238), (120, g186)]
theorem hg191 : HG Tryz.prog G191 := (hg_cons h72 (hg_cons h46 (hg_cons h238 (hg_cons h120 hg_nil))))
theorem e191 (L : Lp) (R : Option Res → Prop) (xs : List (Elem k3)) (s t : Int) : (bodyP Ef G191 L Tryz.f191 [.rsl k3 xs, .val (.int .i64 s), .val (.int .i64 t)] [] R) = (
    br (decide (xs.length ≤ 1048576)) (br (!ddtOk xs) (R (some { av := AV.tup [AV.ows 0, vB false], obs := [AO.row k3 []], outs := [] })) (br (decide (xs.length ≤ 1048576)) (br (decide (xs.length ≤ 1048576)) (br (!entryOk (s, t, 1, ())) (R (some { av := AV.tup [AV.ows 0, vB false], obs := [AO.row k3 xs], outs := [] })) (br (okD xs t) (br (decide (0 ≤ (↑(lnD xs t) : Int) ∧ (↑(lnD xs t) : Int) < (↑xs.length : Int))) (br ((xs.getD (↑(lnD xs t) : Int).toNat (edflt k3)).fst != s) (R (some { av := AV.tup [AV.ows 0, vB false], obs := [AO.row k3 xs], outs := [] })) (br (decide (0 ≤ (↑(lnD xs t) : Int) ∧ (↑(lnD xs t) : Int) < (↑xs.length : Int))) (br ((xs.getD (↑(lnD xs t) : Int).toNat (edflt k3)).snd.snd.fst == 1000) (R (some { av := AV.tup [AV.ows 0, vB false], obs := [AO.row k3 xs], outs := [] })) (br (decide (0 ≤ (↑(lnD xs t) : Int) ∧ (↑(lnD xs t) : Int) < (↑xs.length : Int))) (br (decide (0 ≤ (↑(lnD xs t) : Int) ∧ (↑(lnD xs t) : Int) < (↑xs.length : Int))) (R (some { av := AV.tup [AV.ows 0, vB true], obs := [AO.row k3 (xs.set (↑(lnD xs t) : Int).toNat ((xs.getD (↑(lnD xs t) : Int).toNat (edflt k3)).fst, (xs.getD (↑(lnD xs t) : Int).toNat (edflt k3)).snd.fst, IntKind.i64.wrap ((xs.getD (↑(lnD xs t) : Int).toNat (edflt k3)).snd.snd.fst + 1), ()))], outs := [] })) False) False)) False)) False) (br ((↑xs.length : Int) == 48) (R (some { av := AV.tup [AV.ows 0, vB false], obs := [AO.row k3 xs], outs := [] })) (br (decide (0 ≤ (↑(lnD xs t) : Int) ∧ (↑(lnD xs t) : Int) ≤ (↑xs.length : Int) ∧ (↑xs.length : Int) ≤ (↑xs.length : Int) ∧ (↑xs.length : Int) ≤ (↑xs.length : Int))) (br (decide ((List.take ((↑xs.length : Int) - (↑(lnD xs t) : Int)).toNat (List.drop (↑(lnD xs t) : Int).toNat xs)).length ≤ 1048576)) (br (decide ((0 : Int) ≤ 0 ∧ 0 ≤ (↑(lnD xs t) : Int) ∧ (↑(lnD xs t) : Int) ≤ (↑xs.length : Int) ∧ (↑xs.length : Int) ≤ (↑xs.length : Int))) (br (decide (((List.take ((↑(lnD xs t) : Int) - 0).toNat (List.drop 0 xs)).length + [(s, t, 1, ())].length) * 24 ≤ 140737488355328)) (br (decide (((List.take ((↑(lnD xs t) : Int) - 0).toNat (List.drop 0 xs) ++ [(s, t, 1, ())]).length + (List.take ((↑xs.length : Int) - (↑(lnD xs t) : Int)).toNat (List.drop (↑(lnD xs t) : Int).toNat xs)).length) * 24 ≤ 140737488355328)) (R (some { av := AV.tup [AV.ows 0, vB true], obs := [AO.row k3 (List.take ((↑(lnD xs t) : Int) - 0).toNat (List.drop 0 xs) ++ [(s, t, 1, ())] ++ List.take ((↑xs.length : Int) - (↑(lnD xs t) : Int)).toNat (List.drop (↑(lnD xs t) : Int).toNat xs))], outs := [] })) False) False) False) False) False)))) False) False)) False) := by kernel_rfl
theorem h191 : G1Ok Tryz.prog 191 g191 := by
  intro args obs k h
  unfold g191 at h
  split at h
  · rename_i k xs s t
    obtain ⟨hl, h⟩ := br_and h
    have hl' := of_decide_eq_true hl
    have hk := lnD_le xs t
    refine ⟨_, ctr_fn okf hg191 Tryz.func191 (by kernel_rfl) (by kernel_rfl) (by kernel_rfl) fun C => ?_, h⟩
    rw [e191]
    rw [Int.toNat_natCast, Int.sub_zero, Int.toNat_natCast, show ((xs.length : Int) - (lnD xs t : Int)).toNat = xs.length - lnD xs t by omega, List.drop_zero, List.take_of_length_le (l := xs.drop (lnD xs t)) (by rw [List.length_drop]; exact Nat.le_refl _)]
    unfold daR
    refine br_t hl (br_not (fun h1 => ?_) (fun h1 => br_t hl (br_t hl (br_not (fun h2 => ?_) (fun h2 => br_intro (fun h3 => ?_) (fun h3 => br_intro (fun h4 => ?_) (fun h4 => ?_)))))))
    · rw [h1]
    · rw [h1, h2]
    · have hlt := okD_lt h3
      have hb : 0 ≤ (lnD xs t : Int) ∧ (lnD xs t : Int) < xs.length := by omega
      refine br_yes hb (br_intro (fun h4 => ?_) (fun h4 => br_yes hb (br_intro (fun h5 => ?_) (fun h5 => br_yes hb (br_yes hb ?_)))))
      · have h4 : ((at3 xs (lnD xs t)).1 != s) = true := h4
        rw [h1, h2, h3, h4]
        rfl
      · have h4 : ((at3 xs (lnD xs t)).1 != s) = false := h4
        have h5 : ((at3 xs (lnD xs t)).2.2.1 == 1000) = true := h5
        rw [h1, h2, h3, h4, h5]
        rfl
      · have h4 : ((at3 xs (lnD xs t)).1 != s) = false := h4
        have h5 : ((at3 xs (lnD xs t)).2.2.1 == 1000) = false := h5
        rw [h1, h2, h3, h4, h5]
        rfl
    · rw [h1, h2, h3, h4]
    · have e1 : (xs.drop (lnD xs t)).length ≤ xs.length := by rw [List.length_drop]; omega
      have e2 : (xs.take (lnD xs t)).length ≤ xs.length := by rw [List.length_take]; omega
      rw [h1, h2, h3, h4]
      refine br_yes ⟨by omega, by omega, by omega, by omega⟩ (br_yes (by omega) (br_yes ⟨by omega, by omega, by omega, by omega⟩ (br_yes ?_ (br_yes ?_ rfl))))
      · show ((xs.take (lnD xs t)).length + 1) * 24 ≤ _
        omega
      · rw [List.length_append]
        show ((xs.take (lnD xs t)).length + 1 + (xs.drop (lnD xs t)).length) * 24 ≤ _
        omega
  · exact h.elim
end Go.Proofs.YtkjnijddbiconaaGreatDoor.Ev
