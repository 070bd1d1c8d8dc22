/- Entries dropped and added. -/
import Derived.Test.YtkjnijddbiconaaLB
namespace Go.Proofs.Ytkjnijddbiconaa.Ev
open Go
set_option linter.unusedVariables false
set_option linter.unusedSimpArgs false
set_option maxRecDepth 100000
def decE (e : Elem k3) : Elem k3 := (e.1, e.2.1, IntKind.i64.wrap (e.2.2.1 - 1), ())
def dropK (xs : List (Elem k3)) (k : Nat) : List (Elem k3) := match IntKind.i64.wrap ((at3 xs k).2.2.1 - 1) == 0 with
  | true => xs.take k ++ xs.drop (k + 1)
  | false => xs.set k (decE (at3 xs k))
def ddR (xs : List (Elem k3)) (t : Int) : List (Elem k3) × Bool := match ddtOk xs with
  | false => ([], false)
  | true => match okD xs t with
    | false => (xs, false)
    | true => (dropK xs (lnD xs t), true)
def ddI (xs : List (Elem k3)) (t : Int) : List (Elem k3) × Bool := match bkD xs t with
  | false => (xs, false)
  | true => (dropK xs (bsD xs t), true)
def addK (xs : List (Elem k3)) (s t : Int) (k : Nat) (b : Bool) : List (Elem k3) × Bool := match b with
  | true => match (at3 xs k).1 != s || (at3 xs k).2.2.1 == 1000 with
    | true => (xs, false)
    | false => (xs.set k (incE (at3 xs k)), true)
  | false => match (xs.length : Int) == 48 with
    | true => (xs, false)
    | false => (xs.take k ++ [(s, t, 1, ())] ++ xs.drop k, true)
def daI (xs : List (Elem k3)) (s t : Int) : List (Elem k3) × Bool := match entryOk (s, t, 1, ()) with
  | false => (xs, false)
  | true => addK xs s t (bsD xs t) (bkD xs t)
def ddJ (xs : List (Elem k3)) (t : Int) : List (Elem k3) × Bool := match ddtOk xs with
  | false => ([], false)
  | true => ddI xs t
def daJ (xs : List (Elem k3)) (s t : Int) : List (Elem k3) × Bool := match ddtOk xs with
  | false => ([], false)
  | true => daI xs s t
def g7 : G1
  | [.rsl [.int .i64, .int .i64, .int .i64] xs, .val (.int .i64 t)], [], k => br (decide (xs.length ≤ 1048576)) (k ⟨.tup [.ows 0, .val (.bool (ddR xs t).2)], [.row k3 (ddR xs t).1], []⟩) False
  | _, _, _ => False
def g23 : G1
  | [.rsl [.int .i64, .int .i64, .int .i64] xs, .val (.int .i64 t)], [], k => br (decide (xs.length ≤ 1048576)) (k ⟨.tup [.ows 0, .val (.bool (ddI xs t).2)], [.row k3 (ddI xs t).1], []⟩) False
  | _, _, _ => False
def g26 : G1
  | [.rsl [.int .i64, .int .i64, .int .i64] xs, .val (.int .i64 s), .val (.int .i64 t)], [], k => br (decide (xs.length ≤ 1048576)) (k ⟨.tup [.ows 0, .val (.bool (daI xs s t).2)], [.row k3 (daI xs s t).1], []⟩) False
  | _, _, _ => False
def g9 : G1
  | [.rsl [.int .i64, .int .i64, .int .i64] xs, .val (.int .i64 t)], [], k => br (decide (xs.length ≤ 1048576)) (k ⟨.tup [.ows 0, .val (.bool (ddJ xs t).2)], [.row k3 (ddJ xs t).1], []⟩) False
  | _, _, _ => False
def g14 : G1
  | [.rsl [.int .i64, .int .i64, .int .i64] xs, .val (.int .i64 s), .val (.int .i64 t)], [], k => br (decide (xs.length ≤ 1048576)) (k ⟨.tup [.ows 0, .val (.bool (daJ xs s t).2)], [.row k3 (daJ xs s t).1], []⟩) False
  | _, _, _ => False
theorem at_set {xs : List (Elem k3)} {k : Nat} (h : k < xs.length) (e : Elem k3) : (xs.set k e).getD k (edflt k3) = e := by
  rw [List.getD_eq_getElem?_getD, List.getElem?_set_self h]
  rfl
theorem take_set (xs : List (Elem k3)) (k : Nat) (e : Elem k3) : (xs.set k e).take k ++ (xs.set k e).drop (k + 1) = xs.take k ++ xs.drop (k + 1) := by
  rw [List.take_set_of_le (Nat.le_refl k), List.drop_set_of_lt (by omega)]
noncomputable def E7 : Env := Ef.of Try.f7
noncomputable def G7 : Gk := gk [(21, g21), (18, g17), (20, g20)]
noncomputable def lp7 (n : Nat) : Code := (loopOf n (codeOf Try.f7)).getD .skip
noncomputable def ct7 (L : Lp) (R : Option Res → Prop) (n : Nat) : Kt := contOf E7 G7 L n (codeOf Try.f7) (endK E7 Try.f7.results.toList R)
noncomputable def rk7 (L : Lp) (R : Option Res → Prop) (n : Nat) (N : St → Prop) : Kt := rk (jof E7 (lp7 n)) N (ct7 L R n)
noncomputable def rkn7 (L : Lp) (R : Option Res → Prop) (n : Nat) (N : St → Prop) (m : Nat) (N2 : St → Prop) : Kt := rk (jof E7 (lp7 m)) N2 (contOf E7 G7 L m (lp7 n) (rk7 L R n N))
noncomputable def LOOPN7 (L : Lp) (R : Option Res → Prop) (n : Nat) (N : St → Prop) (m : Nat) (st : St) : Prop := L (lp7 m) st (contOf E7 G7 L m (lp7 n) (rk7 L R n N))
noncomputable def LOOP7 (L : Lp) (R : Option Res → Prop) (n : Nat) (st : St) : Prop := L (lp7 n) st (ct7 L R n)
theorem hg7 : HG Try.prog G7 := (hg_cons h21 (hg_cons h18 (hg_cons h20 hg_nil)))
theorem okf7 : Ok Try.prog E7 := okf.of Try.f7
theorem e7 (L : Lp) (R : Option Res → Prop) (xs : List (Elem k3)) (t : Int) : (bodyP Ef G7 L Try.f7 [.rsl k3 xs, .val (.int .i64 t)] [] R) = (
    br (decide (xs.length ≤ 1048576)) (br (!ddtOk xs) (R (some { av := AV.tup [AV.ows 0, vB false], obs := [AO.row kq []], outs := [] })) (br (decide (xs.length ≤ 1048576)) (br (decide (xs.length ≤ 1048576)) (br (!okD xs t) (R (some { av := AV.tup [AV.ows 0, vB false], obs := [AO.row kq xs], outs := [] })) (br (decide (0 ≤ (↑(lnD xs t) : Int) ∧ (↑(lnD xs t) : Int) < (↑xs.length : Int))) (br (decide (0 ≤ (↑(lnD xs t) : Int) ∧ (↑(lnD xs t) : Int) < (↑xs.length : Int))) (br (decide (0 ≤ (↑(lnD xs t) : Int) ∧ (↑(lnD xs t) : Int) < (↑(xs.set (↑(lnD xs t) : Int).toNat ((xs.getD (↑(lnD xs t) : Int).toNat (edflt kq)).fst, (xs.getD (↑(lnD xs t) : Int).toNat (edflt kq)).snd.fst, IntKind.i64.wrap ((xs.getD (↑(lnD xs t) : Int).toNat (edflt kq)).snd.snd.fst - 1), ())).length : Int))) (br (((xs.set (↑(lnD xs t) : Int).toNat ((xs.getD (↑(lnD xs t) : Int).toNat (edflt kq)).fst, (xs.getD (↑(lnD xs t) : Int).toNat (edflt kq)).snd.fst, IntKind.i64.wrap ((xs.getD (↑(lnD xs t) : Int).toNat (edflt kq)).snd.snd.fst - 1), ())).getD (↑(lnD xs t) : Int).toNat (edflt kq)).snd.snd.fst == 0) (br (decide ((0 : Int) ≤ 0 ∧ 0 ≤ (↑(lnD xs t) : Int) ∧ (↑(lnD xs t) : Int) ≤ (↑xs.length : Int) ∧ (↑xs.length : Int) ≤ (↑xs.length : Int))) (br (decide ((List.drop 0 (List.take (↑(lnD xs t) : Int).toNat xs)).length ≤ 1048576)) (br (decide (0 ≤ IntKind.i64.wrap ((↑(lnD xs t) : Int) + 1) ∧ IntKind.i64.wrap ((↑(lnD xs t) : Int) + 1) ≤ (↑xs.length : Int) ∧ (↑xs.length : Int) ≤ (↑xs.length : Int) ∧ (↑xs.length : Int) ≤ (↑xs.length : Int))) (br (decide (((List.drop 0 (List.take (↑(lnD xs t) : Int).toNat xs)).length + (List.drop (IntKind.i64.wrap ((↑(lnD xs t) : Int) + 1)).toNat (List.take (↑xs.length : Int).toNat xs)).length) * 24 ≤ 140737488355328)) (R (some { av := AV.tup [AV.ows 0, vB true], obs := [AO.row kq (List.drop 0 (List.take (↑(lnD xs t) : Int).toNat xs) ++ List.drop (IntKind.i64.wrap ((↑(lnD xs t) : Int) + 1)).toNat (List.take (↑xs.length : Int).toNat xs))], outs := [] })) False) False) False) False) (R (some { av := AV.tup [AV.ows 0, vB true], obs := [AO.row kq (xs.set (↑(lnD xs t) : Int).toNat ((xs.getD (↑(lnD xs t) : Int).toNat (edflt kq)).fst, (xs.getD (↑(lnD xs t) : Int).toNat (edflt kq)).snd.fst, IntKind.i64.wrap ((xs.getD (↑(lnD xs t) : Int).toNat (edflt kq)).snd.snd.fst - 1), ()))], outs := [] }))) False) False) False)) False) False)) False) := by kernel_rfl
theorem h7 : G1Ok Try.prog 7 g7 := by
  intro args obs k h
  unfold g7 at h
  split at h
  · rename_i k xs t
    obtain ⟨hl, h⟩ := br_and h
    have hl' := of_decide_eq_true hl
    refine ⟨_, ctr_fn okf hg7 Try.func7 (by kernel_rfl) (by kernel_rfl) (by kernel_rfl) fun C => ?_, h⟩
    rw [e7]
    rw [Int.toNat_natCast]
    unfold ddR
    refine br_t hl (br_not (fun h1 => ?_) (fun h1 => br_t hl (br_t hl (br_not (fun h2 => ?_) (fun h2 => ?_)))))
    · rw [h1]
    · rw [h1, h2]
    · have hlt := okD_lt h2
      have hb : 0 ≤ (lnD xs t : Int) ∧ (lnD xs t : Int) < xs.length := by omega
      have hw : IntKind.i64.wrap ((lnD xs t : Int) + 1) = ((lnD xs t + 1 : Nat) : Int) := by rw [wrap_id (by omega) (by omega)]; omega
      rw [at_set hlt, hw, Int.toNat_natCast, Int.toNat_natCast, h1, h2]
      have e1 : (xs.take (lnD xs t)).length ≤ xs.length := by rw [List.length_take]; omega
      have e2 : (xs.drop (lnD xs t + 1)).length ≤ xs.length := by rw [List.length_drop]; omega
      refine br_yes hb (br_yes hb (br_yes (by rw [List.length_set]; exact hb) (br_intro (fun h3 => ?_) (fun h3 => ?_))))
      · rw [List.drop_zero, List.take_of_length_le (Nat.le_refl xs.length)]
        refine br_yes ⟨by omega, by omega, by omega, by omega⟩ (br_yes (by omega) (br_yes ⟨by omega, by omega, by omega, by omega⟩ (br_yes (by omega) ?_)))
        unfold dropK
        have h3 : (IntKind.i64.wrap ((at3 xs (lnD xs t)).2.2.1 - 1) == 0) = true := h3
        rw [h3]
      · unfold dropK
        have h3 : (IntKind.i64.wrap ((at3 xs (lnD xs t)).2.2.1 - 1) == 0) = false := h3
        rw [h3]
        rfl
  · exact h.elim
noncomputable def E23 : Env := El.of Try.f23
noncomputable def G23 : Gk := gk [(33, g33), (34, g34), (35, g35)]
noncomputable def lp23 (n : Nat) : Code := (loopOf n (codeOf Try.f23)).getD .skip
noncomputable def ct23 (L : Lp) (R : Option Res → Prop) (n : Nat) : Kt := contOf E23 G23 L n (codeOf Try.f23) (endK E23 Try.f23.results.toList R)
noncomputable def rk23 (L : Lp) (R : Option Res → Prop) (n : Nat) (N : St → Prop) : Kt := rk (jof E23 (lp23 n)) N (ct23 L R n)
noncomputable def rkn23 (L : Lp) (R : Option Res → Prop) (n : Nat) (N : St → Prop) (m : Nat) (N2 : St → Prop) : Kt := rk (jof E23 (lp23 m)) N2 (contOf E23 G23 L m (lp23 n) (rk23 L R n N))
noncomputable def LOOPN23 (L : Lp) (R : Option Res → Prop) (n : Nat) (N : St → Prop) (m : Nat) (st : St) : Prop := L (lp23 m) st (contOf E23 G23 L m (lp23 n) (rk23 L R n N))
noncomputable def LOOP23 (L : Lp) (R : Option Res → Prop) (n : Nat) (st : St) : Prop := L (lp23 n) st (ct23 L R n)
theorem hg23 : HG Try.prog G23 := (hg_cons h33 (hg_cons h34 (hg_cons h35 hg_nil)))
theorem okf23 : Ok Try.prog E23 := okl.of Try.f23
theorem e23 (L : Lp) (R : Option Res → Prop) (xs : List (Elem k3)) (t : Int) : (bodyP El G23 L Try.f23 [.rsl k3 xs, .val (.int .i64 t)] [] R) = (
    br (decide (xs.length ≤ 1048576)) (br (decide (xs.length ≤ 1048576)) (br (!bkD xs t) (R (some { av := AV.tup [AV.ows 0, vB false], obs := [AO.row kq xs], outs := [] })) (br (decide (0 ≤ (↑(bsD xs t) : Int) ∧ (↑(bsD xs t) : Int) < (↑xs.length : Int))) (br (decide (0 ≤ (↑(bsD xs t) : Int) ∧ (↑(bsD xs t) : Int) < (↑xs.length : Int))) (br (decide (0 ≤ (↑(bsD xs t) : Int) ∧ (↑(bsD xs t) : Int) < (↑(xs.set (↑(bsD xs t) : Int).toNat ((xs.getD (↑(bsD xs t) : Int).toNat (edflt kq)).fst, (xs.getD (↑(bsD xs t) : Int).toNat (edflt kq)).snd.fst, IntKind.i64.wrap ((xs.getD (↑(bsD xs t) : Int).toNat (edflt kq)).snd.snd.fst - 1), ())).length : Int))) (br (((xs.set (↑(bsD xs t) : Int).toNat ((xs.getD (↑(bsD xs t) : Int).toNat (edflt kq)).fst, (xs.getD (↑(bsD xs t) : Int).toNat (edflt kq)).snd.fst, IntKind.i64.wrap ((xs.getD (↑(bsD xs t) : Int).toNat (edflt kq)).snd.snd.fst - 1), ())).getD (↑(bsD xs t) : Int).toNat (edflt kq)).snd.snd.fst == 0) (br (decide (0 ≤ (↑(bsD xs t) : Int) ∧ (↑(bsD xs t) : Int) < (↑(xs.set (↑(bsD xs t) : Int).toNat ((xs.getD (↑(bsD xs t) : Int).toNat (edflt kq)).fst, (xs.getD (↑(bsD xs t) : Int).toNat (edflt kq)).snd.fst, IntKind.i64.wrap ((xs.getD (↑(bsD xs t) : Int).toNat (edflt kq)).snd.snd.fst - 1), ())).length : Int)) && decide (IntKind.i64.wrap ((↑(bsD xs t) : Int) + 1) = (↑(bsD xs t) : Int) + 1)) (R (some { av := AV.tup [AV.ows 0, vB true], obs := [AO.row kq (List.take (↑(bsD xs t) : Int).toNat (xs.set (↑(bsD xs t) : Int).toNat ((xs.getD (↑(bsD xs t) : Int).toNat (edflt kq)).fst, (xs.getD (↑(bsD xs t) : Int).toNat (edflt kq)).snd.fst, IntKind.i64.wrap ((xs.getD (↑(bsD xs t) : Int).toNat (edflt kq)).snd.snd.fst - 1), ())) ++ List.drop ((↑(bsD xs t) : Int).toNat + 1) (xs.set (↑(bsD xs t) : Int).toNat ((xs.getD (↑(bsD xs t) : Int).toNat (edflt kq)).fst, (xs.getD (↑(bsD xs t) : Int).toNat (edflt kq)).snd.fst, IntKind.i64.wrap ((xs.getD (↑(bsD xs t) : Int).toNat (edflt kq)).snd.snd.fst - 1), ())))], outs := [] })) False) (R (some { av := AV.tup [AV.ows 0, vB true], obs := [AO.row kq (xs.set (↑(bsD xs t) : Int).toNat ((xs.getD (↑(bsD xs t) : Int).toNat (edflt kq)).fst, (xs.getD (↑(bsD xs t) : Int).toNat (edflt kq)).snd.fst, IntKind.i64.wrap ((xs.getD (↑(bsD xs t) : Int).toNat (edflt kq)).snd.snd.fst - 1), ()))], outs := [] }))) False) False) False)) False) False) := by kernel_rfl
theorem h23 : G1Ok Try.prog 23 g23 := by
  intro args obs k h
  unfold g23 at h
  split at h
  · rename_i k xs t
    obtain ⟨hl, h⟩ := br_and h
    have hl' := of_decide_eq_true hl
    refine ⟨_, ctr_fn okl hg23 Try.func23 (by kernel_rfl) (by kernel_rfl) (by kernel_rfl) fun C => ?_, h⟩
    rw [e23]
    rw [Int.toNat_natCast]
    unfold ddI
    refine br_t hl (br_t hl (br_not (fun h2 => ?_) (fun h2 => ?_)))
    · rw [h2]
    · have hlt := bkD_lt h2
      have hb : 0 ≤ (bsD xs t : Int) ∧ (bsD xs t : Int) < xs.length := by omega
      have hw : IntKind.i64.wrap ((bsD xs t : Int) + 1) = (bsD xs t : Int) + 1 := wrap_id (by omega) (by omega)
      rw [at_set hlt, hw, h2]
      refine br_yes hb (br_yes hb (br_yes (by rw [List.length_set]; exact hb) (br_intro (fun h3 => ?_) (fun h3 => ?_))))
      · refine br_t (by rw [List.length_set, decide_eq_true hb, decide_eq_true rfl]; rfl) ?_
        rw [take_set]
        unfold dropK
        have h3 : (IntKind.i64.wrap ((at3 xs (bsD xs t)).2.2.1 - 1) == 0) = true := h3
        rw [h3]
      · unfold dropK
        have h3 : (IntKind.i64.wrap ((at3 xs (bsD xs t)).2.2.1 - 1) == 0) = false := h3
        rw [h3]
        rfl
  · exact h.elim
noncomputable def E26 : Env := El.of Try.f26
noncomputable def G26 : Gk := gk [(32, g32), (33, g33), (34, g34), (36, g36)]
noncomputable def lp26 (n : Nat) : Code := (loopOf n (codeOf Try.f26)).getD .skip
noncomputable def ct26 (L : Lp) (R : Option Res → Prop) (n : Nat) : Kt := contOf E26 G26 L n (codeOf Try.f26) (endK E26 Try.f26.results.toList R)
noncomputable def rk26 (L : Lp) (R : Option Res → Prop) (n : Nat) (N : St → Prop) : Kt := rk (jof E26 (lp26 n)) N (ct26 L R n)
noncomputable def rkn26 (L : Lp) (R : Option Res → Prop) (n : Nat) (N : St → Prop) (m : Nat) (N2 : St → Prop) : Kt := rk (jof E26 (lp26 m)) N2 (contOf E26 G26 L m (lp26 n) (rk26 L R n N))
noncomputable def LOOPN26 (L : Lp) (R : Option Res → Prop) (n : Nat) (N : St → Prop) (m : Nat) (st : St) : Prop := L (lp26 m) st (contOf E26 G26 L m (lp26 n) (rk26 L R n N))
noncomputable def LOOP26 (L : Lp) (R : Option Res → Prop) (n : Nat) (st : St) : Prop := L (lp26 n) st (ct26 L R n)
theorem hg26 : HG Try.prog G26 := (hg_cons h32 (hg_cons h33 (hg_cons h34 (hg_cons h36 hg_nil))))
theorem okf26 : Ok Try.prog E26 := okl.of Try.f26
theorem e26 (L : Lp) (R : Option Res → Prop) (xs : List (Elem k3)) (s t : Int) : (bodyP El G26 L Try.f26 [.rsl k3 xs, .val (.int .i64 s), .val (.int .i64 t)] [] R) = (
    br (decide (xs.length ≤ 1048576)) (br (!entryOk (s, t, 1, ())) (R (some { av := AV.tup [AV.ows 0, vB false], obs := [AO.row kq xs], outs := [] })) (br (decide (xs.length ≤ 1048576)) (br (bkD xs t) (br (decide (0 ≤ (↑(bsD xs t) : Int) ∧ (↑(bsD xs t) : Int) < (↑xs.length : Int))) (br ((xs.getD (↑(bsD xs t) : Int).toNat (edflt kq)).fst != s) (R (some { av := AV.tup [AV.ows 0, vB false], obs := [AO.row kq xs], outs := [] })) (br (decide (0 ≤ (↑(bsD xs t) : Int) ∧ (↑(bsD xs t) : Int) < (↑xs.length : Int))) (br ((xs.getD (↑(bsD xs t) : Int).toNat (edflt kq)).snd.snd.fst == 1000) (R (some { av := AV.tup [AV.ows 0, vB false], obs := [AO.row kq xs], outs := [] })) (br (bkD xs t) (br (decide (0 ≤ (↑(bsD xs t) : Int) ∧ (↑(bsD xs t) : Int) < (↑xs.length : Int))) (br (decide (0 ≤ (↑(bsD xs t) : Int) ∧ (↑(bsD xs t) : Int) < (↑xs.length : Int))) (R (some { av := AV.tup [AV.ows 0, vB true], obs := [AO.row kq (xs.set (↑(bsD xs t) : Int).toNat ((xs.getD (↑(bsD xs t) : Int).toNat (edflt kq)).fst, (xs.getD (↑(bsD xs t) : Int).toNat (edflt kq)).snd.fst, IntKind.i64.wrap ((xs.getD (↑(bsD xs t) : Int).toNat (edflt kq)).snd.snd.fst + 1), ()))], outs := [] })) False) False) (br ((↑xs.length : Int) == 48) (R (some { av := AV.tup [AV.ows 0, vB false], obs := [AO.row kq xs], outs := [] })) (br (decide (0 ≤ (↑(bsD xs t) : Int) ∧ (↑(bsD xs t) : Int) ≤ (↑xs.length : Int)) && (decide (xs.length ≤ 1048576) && decide ([(s, t, 1, ())].length = 1))) (R (some { av := AV.tup [AV.ows 0, vB true], obs := [AO.row kq (List.take (↑(bsD xs t) : Int).toNat xs ++ [(s, t, 1, ())] ++ List.drop (↑(bsD xs t) : Int).toNat xs)], outs := [] })) False)))) False)) False) (br (bkD xs t) (br (decide (0 ≤ (↑(bsD xs t) : Int) ∧ (↑(bsD xs t) : Int) < (↑xs.length : Int))) (br (decide (0 ≤ (↑(bsD xs t) : Int) ∧ (↑(bsD xs t) : Int) < (↑xs.length : Int))) (R (some { av := AV.tup [AV.ows 0, vB true], obs := [AO.row kq (xs.set (↑(bsD xs t) : Int).toNat ((xs.getD (↑(bsD xs t) : Int).toNat (edflt kq)).fst, (xs.getD (↑(bsD xs t) : Int).toNat (edflt kq)).snd.fst, IntKind.i64.wrap ((xs.getD (↑(bsD xs t) : Int).toNat (edflt kq)).snd.snd.fst + 1), ()))], outs := [] })) False) False) (br ((↑xs.length : Int) == 48) (R (some { av := AV.tup [AV.ows 0, vB false], obs := [AO.row kq xs], outs := [] })) (br (decide (0 ≤ (↑(bsD xs t) : Int) ∧ (↑(bsD xs t) : Int) ≤ (↑xs.length : Int)) && (decide (xs.length ≤ 1048576) && decide ([(s, t, 1, ())].length = 1))) (R (some { av := AV.tup [AV.ows 0, vB true], obs := [AO.row kq (List.take (↑(bsD xs t) : Int).toNat xs ++ [(s, t, 1, ())] ++ List.drop (↑(bsD xs t) : Int).toNat xs)], outs := [] })) False)))) False)) False) := by kernel_rfl
theorem bsD_le (xs : List (Elem k3)) (t : Int) : bsD xs t ≤ xs.length := (bsf_le _ _ _ (Nat.zero_le _)).2
theorem h26 : G1Ok Try.prog 26 g26 := by
  intro args obs k h
  unfold g26 at h
  split at h
  · rename_i k xs s t
    obtain ⟨hl, h⟩ := br_and h
    have hl' := of_decide_eq_true hl
    refine ⟨_, ctr_fn okl hg26 Try.func26 (by kernel_rfl) (by kernel_rfl) (by kernel_rfl) fun C => ?_, h⟩
    rw [e26]
    rw [Int.toNat_natCast]
    have hk := bsD_le xs t
    have hins : (decide (0 ≤ (bsD xs t : Int) ∧ (bsD xs t : Int) ≤ xs.length) && (decide (xs.length ≤ 1048576) && decide ([((s, t, 1, ()) : Elem k3)].length = 1))) = true := by
      rw [hl, decide_eq_true (show 0 ≤ (bsD xs t : Int) ∧ (bsD xs t : Int) ≤ xs.length by omega)]
      rfl
    unfold daI addK
    refine br_t hl (br_not (fun h1 => ?_) (fun h1 => br_t hl (br_intro (fun h2 => ?_) (fun h2 => ?_))))
    · rw [h1]
    · have hlt := bkD_lt h2
      have hb : 0 ≤ (bsD xs t : Int) ∧ (bsD xs t : Int) < xs.length := by omega
      rw [h1, h2]
      refine br_yes hb (br_intro (fun h4 => ?_) (fun h4 => br_yes hb (br_intro (fun h5 => ?_) (fun h5 => ?_))))
      · have h4 : ((at3 xs (bsD xs t)).1 != s) = true := h4
        rw [h4]
        rfl
      · have h4 : ((at3 xs (bsD xs t)).1 != s) = false := h4
        have h5 : ((at3 xs (bsD xs t)).2.2.1 == 1000) = true := h5
        rw [h4, h5]
        rfl
      · have h4 : ((at3 xs (bsD xs t)).1 != s) = false := h4
        have h5 : ((at3 xs (bsD xs t)).2.2.1 == 1000) = false := h5
        rw [h4, h5]
        exact br_t rfl (br_yes hb (br_yes hb rfl))
    · rw [h1, h2]
      refine br_f rfl (br_intro (fun h4 => ?_) (fun h4 => ?_))
      · rw [h4]
      · rw [h4]
        exact br_t hins rfl
  · exact h.elim
noncomputable def E9 : Env := El.of Try.f9
noncomputable def G9 : Gk := gk [(17, g17), (23, g23)]
noncomputable def lp9 (n : Nat) : Code := (loopOf n (codeOf Try.f9)).getD .skip
noncomputable def ct9 (L : Lp) (R : Option Res → Prop) (n : Nat) : Kt := contOf E9 G9 L n (codeOf Try.f9) (endK E9 Try.f9.results.toList R)
noncomputable def rk9 (L : Lp) (R : Option Res → Prop) (n : Nat) (N : St → Prop) : Kt := rk (jof E9 (lp9 n)) N (ct9 L R n)
noncomputable def rkn9 (L : Lp) (R : Option Res → Prop) (n : Nat) (N : St → Prop) (m : Nat) (N2 : St → Prop) : Kt := rk (jof E9 (lp9 m)) N2 (contOf E9 G9 L m (lp9 n) (rk9 L R n N))
noncomputable def LOOPN9 (L : Lp) (R : Option Res → Prop) (n : Nat) (N : St → Prop) (m : Nat) (st : St) : Prop := L (lp9 m) st (contOf E9 G9 L m (lp9 n) (rk9 L R n N))
noncomputable def LOOP9 (L : Lp) (R : Option Res → Prop) (n : Nat) (st : St) : Prop := L (lp9 n) st (ct9 L R n)
theorem hg9 : HG Try.prog G9 := (hg_cons h17 (hg_cons h23 hg_nil))
theorem okf9 : Ok Try.prog E9 := okl.of Try.f9
theorem e9 (L : Lp) (R : Option Res → Prop) (xs : List (Elem k3)) (t : Int) : (bodyP El G9 L Try.f9 [.rsl k3 xs, .val (.int .i64 t)] [] R) = (
    br (decide (xs.length ≤ 1048576)) (br (!ddtOk xs) (R (some { av := AV.tup [AV.ows 0, vB false], obs := [AO.row kq []], outs := [] })) (br (decide (xs.length ≤ 1048576)) (R (some { av := AV.tup [AV.ows 0, vB (ddI xs t).snd], obs := [AO.row kq (ddI xs t).fst], outs := [] })) False)) False) := by kernel_rfl
theorem h9 : G1Ok Try.prog 9 g9 := by
  intro args obs k h
  unfold g9 at h
  split at h
  · rename_i k xs t
    obtain ⟨hl, h⟩ := br_and h
    refine ⟨_, ctr_fn okl hg9 Try.func9 (by kernel_rfl) (by kernel_rfl) (by kernel_rfl) fun C => ?_, h⟩
    rw [e9]
    unfold ddJ
    refine br_t hl (br_not (fun h1 => ?_) (fun h1 => br_t hl ?_))
    · rw [h1]
    · rw [h1]
  · exact h.elim
noncomputable def E14 : Env := El.of Try.f14
noncomputable def G14 : Gk := gk [(17, g17), (26, g26)]
noncomputable def lp14 (n : Nat) : Code := (loopOf n (codeOf Try.f14)).getD .skip
noncomputable def ct14 (L : Lp) (R : Option Res → Prop) (n : Nat) : Kt := contOf E14 G14 L n (codeOf Try.f14) (endK E14 Try.f14.results.toList R)
noncomputable def rk14 (L : Lp) (R : Option Res → Prop) (n : Nat) (N : St → Prop) : Kt := rk (jof E14 (lp14 n)) N (ct14 L R n)
noncomputable def rkn14 (L : Lp) (R : Option Res → Prop) (n : Nat) (N : St → Prop) (m : Nat) (N2 : St → Prop) : Kt := rk (jof E14 (lp14 m)) N2 (contOf E14 G14 L m (lp14 n) (rk14 L R n N))
noncomputable def LOOPN14 (L : Lp) (R : Option Res → Prop) (n : Nat) (N : St → Prop) (m : Nat) (st : St) : Prop := L (lp14 m) st (contOf E14 G14 L m (lp14 n) (rk14 L R n N))
noncomputable def LOOP14 (L : Lp) (R : Option Res → Prop) (n : Nat) (st : St) : Prop := L (lp14 n) st (ct14 L R n)
theorem hg14 : HG Try.prog G14 := (hg_cons h17 (hg_cons h26 hg_nil))
theorem okf14 : Ok Try.prog E14 := okl.of Try.f14
theorem e14 (L : Lp) (R : Option Res → Prop) (xs : List (Elem k3)) (s t : Int) : (bodyP El G14 L Try.f14 [.rsl k3 xs, .val (.int .i64 s), .val (.int .i64 t)] [] R) = (
    br (decide (xs.length ≤ 1048576)) (br (!ddtOk xs) (R (some { av := AV.tup [AV.ows 0, vB false], obs := [AO.row kq []], outs := [] })) (br (decide (xs.length ≤ 1048576)) (R (some { av := AV.tup [AV.ows 0, vB (daI xs s t).snd], obs := [AO.row kq (daI xs s t).fst], outs := [] })) False)) False) := by kernel_rfl
theorem h14 : G1Ok Try.prog 14 g14 := by
  intro args obs k h
  unfold g14 at h
  split at h
  · rename_i k xs s t
    obtain ⟨hl, h⟩ := br_and h
    refine ⟨_, ctr_fn okl hg14 Try.func14 (by kernel_rfl) (by kernel_rfl) (by kernel_rfl) fun C => ?_, h⟩
    rw [e14]
    unfold daJ
    refine br_t hl (br_not (fun h1 => ?_) (fun h1 => br_t hl ?_))
    · rw [h1]
    · rw [h1]
  · exact h.elim
/-- Both ways of dropping come to the same. -/
theorem ddJ_eq (xs : List (Elem k3)) {t : Int} (h0 : -9223372036854775808 ≤ t) (h1 : t ≤ 9223372036854775807) : ddJ xs t = ddR xs t := by
  unfold ddJ ddR
  cases hd : ddtOk xs with
  | false => rfl
  | true =>
    obtain ⟨a1, a2⟩ := bk_all hd h0 h1
    unfold ddI
    rw [a1]
    cases ho : okD xs t with
    | false => rfl
    | true => rw [a2 ho]
/-- Both ways of adding come to the same. -/
theorem daJ_eq (xs : List (Elem k3)) (s t : Int) : daJ xs s t = daR xs s t := by
  unfold daJ daR
  cases hd : ddtOk xs with
  | false => rfl
  | true =>
    unfold daI
    cases he : entryOk (s, t, 1, ()) with
    | false => rfl
    | true =>
      have ht : 1 ≤ t ∧ t ≤ 119 := by
        simp only [entryOk, within, Bool.and_eq_true, decide_eq_true_eq] at he
        exact ⟨he.1.2.1, he.1.2.2⟩
      have a1 := bk_okD hd (t := t) (by omega) (by omega)
      have a2 := bs_lnD hd (t := t) (by omega) (by omega)
      rw [a1, a2]
      rfl
end Go.Proofs.Ytkjnijddbiconaa.Ev
