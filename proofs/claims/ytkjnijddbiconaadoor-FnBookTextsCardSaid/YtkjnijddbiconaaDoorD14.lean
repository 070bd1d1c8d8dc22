/- Books that are valid: contracts. -/
import Derived.Test.YtkjnijddbiconaaDoorD13
namespace Go.Proofs.YtkjnijddbiconaaDoor.Ev
open Go
set_option linter.unusedVariables false
set_option linter.unusedSimpArgs false
set_option maxRecDepth 100000
def g62 : G1
  | [.val (.string t)], [], k => k ⟨.val (.bool (decide ((t.size : Int) > 24))), [], []⟩
  | _, _, _ => False
def g88 : G1
  | [.rsl [.str] xs, .fn 62 []], [], k => br (decide (xs.length ≤ 1048576)) (k ⟨.val (.int .i64 (fIx xs.length fun i => decide (((at1 xs i).size : Int) > 24))), [], []⟩) False
  | _, _, _ => False
def g61 : G1
  | [.rsl [.str] xs, .fn 62 []], [], k => br (decide (xs.length ≤ 1048576)) (k ⟨.val (.bool (anyB xs.length fun i => decide (((at1 xs i).size : Int) > 24))), [], []⟩) False
  | _, _, _ => False
def setC (e : Elem kb) : List AV := [.val (.string e.1), .val (.int .i64 e.2.1), .val (.string e.2.2.1), .val (.string e.2.2.2.1), .val (.string e.2.2.2.2.1), .val (.string e.2.2.2.2.2.1), .val (.string e.2.2.2.2.2.2.1), .val (.string e.2.2.2.2.2.2.2.1), .val (.string e.2.2.2.2.2.2.2.2.1), .val (.string e.2.2.2.2.2.2.2.2.2.1), .val (.string e.2.2.2.2.2.2.2.2.2.2.1)]
abbrev atB (xs : List (Elem kb)) (i : Nat) : Elem kb := xs.getD i (edflt kb)
def lnB (xs : List (Elem kb)) (t : ByteArray) : Nat := ln (fun i => strLt (atB xs i).1 t) xs.length
def okB (xs : List (Elem kb)) (t : ByteArray) : Bool := decide (lnB xs t < xs.length) && strEq (atB xs (lnB xs t)).1 t
def g68 : G1
  | [.agg [.rsl [.str, .int .i64, .str, .str, .str, .str, .str, .str, .str, .str, .str] xs], .val (.string t)], [], k => br (decide (xs.length ≤ 1048576)) (k ⟨.tup [.val (.int .i64 (lnB xs t)), .val (.bool (okB xs t))], [], []⟩) False
  | _, _, _ => False
def g90 : G1
  | [.agg us, .rpt vs], [], k => match elemOf kb us, elemOf kb vs with
    | some a, some s => k ⟨.val (.bool (strEq a.1 s.2.2.1)), [], []⟩
    | _, _ => False
  | _, _, _ => False
def fdB (xs : List (Elem kb)) (t : ByteArray) : Option Nat := fd xs.length fun i => strEq (atB xs i).1 t
def ixO : Option Nat → Int
  | some k => k
  | none => -1
def g89 : G1
  | [.rsl [.str, .int .i64, .str, .str, .str, .str, .str, .str, .str, .str, .str] xs, .fn 90 [.rpt vs]], [], k => match elemOf kb vs with
    | some s => br (decide (xs.length ≤ 1048576)) (k ⟨.val (.int .i64 (ixO (fdB xs s.2.2.1))), [], []⟩) False
    | none => False
  | _, _, _ => False
noncomputable def G62 : Gk := gk []
theorem hg62 : HG Tryd.prog G62 := hg_nil
theorem e62 (L : Lp) (R : Option Res → Prop) (t : ByteArray) : (bodyP E0 G62 L Tryd.f62 [.val (.string t)] [] R) = (
    R (some { av := vB (decide ((↑t.size : Int) > 24)), obs := [], outs := [] })) := by kernel_rfl
theorem h62 : G1Ok Tryd.prog 62 g62 := by
  intro args obs k h
  unfold g62 at h
  split at h
  · rename_i k t
    refine ⟨_, ctr_fn ok0 hg62 Tryd.func62 (by kernel_rfl) (by kernel_rfl) (by kernel_rfl) fun C => ?_, h⟩
    rw [e62]
  · exact h.elim
noncomputable def E88 : Env := E0.of Tryd.f88
noncomputable def G88 : Gk := gk [(62, g62)]
noncomputable def lp88 (n : Nat) : Code := (loopOf n (codeOf Tryd.f88)).getD .skip
noncomputable def ct88 (L : Lp) (R : Option Res → Prop) (n : Nat) : Kt := contOf E88 G88 L n (codeOf Tryd.f88) (endK E88 Tryd.f88.results.toList R)
noncomputable def rk88 (L : Lp) (R : Option Res → Prop) (n : Nat) (N : St → Prop) : Kt := rk (jof E88 (lp88 n)) N (ct88 L R n)
noncomputable def LOOP88 (L : Lp) (R : Option Res → Prop) (n : Nat) (st : St) : Prop := L (lp88 n) st (ct88 L R n)
theorem hg88 : HG Tryd.prog G88 := (hg_cons h62 hg_nil)
theorem okf88 : Ok Tryd.prog E88 := ok0.of Tryd.f88
theorem e88 (L : Lp) (R : Option Res → Prop) (xs : List (Elem ks)) : (bodyP E0 G88 L Tryd.f88 [.rsl ks xs, .fn 62 []] [] R) = (
    LOOP88 L R 2 { tm := [AV.rsl ks xs, AV.fn 62 [], vU, vU, vI 0, vJ, vJ, vI (↑xs.length : Int), vI 0, vJ, vJ, vJ, vJ, vJ, vJ, vJ, vJ, vJ, vJ], ob := [], nx := 1000000, ps := [] }) := by kernel_rfl
def st88 (xs : List (Elem ks)) (i : Int) : St :=  ⟨[AV.rsl ks xs, AV.fn 62 [], vU, vU, vI 0, vJ, vJ, vI (↑xs.length : Int), .val (.int .i64 i), vJ, vJ, vJ, vJ, vJ, vJ, vJ, vJ, vJ, vJ], [], 1000000, []⟩
theorem b88 (L : Lp) (R : Option Res → Prop) (N : St → Prop) (xs : List (Elem ks)) (i : Int) : (evP E88 G88 L (lp88 2) (st88 xs i) (rk88 L R 2 N)) = (
    br (decide (i < (↑xs.length : Int))) (br (decide (0 ≤ i ∧ i < (↑xs.length : Int))) (br (decide ((↑(ByteArray.size (xs.getD i.toNat (edflt ks)).fst) : Int) > 24)) (R (some { av := vI i, obs := [], outs := [] })) (N { tm := [AV.rsl ks xs, AV.fn 62 [], vU, vU, vI 0, vJ, vJ, vI (↑xs.length : Int), vI (IntKind.i64.wrap (i + 1)), vJ, vJ, vJ, vJ, vJ, vJ, vJ, vJ, vJ, vJ], ob := [], nx := 1000000, ps := [] })) False) (R (some { av := vI (-1), obs := [], outs := [] }))) := by kernel_rfl
theorem h88 : G1Ok Tryd.prog 88 g88 := by
  intro args obs k h
  unfold g88 at h
  split at h
  · rename_i k xs
    obtain ⟨hl, h⟩ := brd h
    refine ⟨_, ctr_fn ok0 hg88 Tryd.func88 (by kernel_rfl) (by kernel_rfl) (by kernel_rfl) fun C => ?_, h⟩
    rw [e88]
    refine loopFind okf88 hg88 (fun i => st88 xs i) xs.length (fun i => decide (((at1 xs i).size : Int) > 24)) (by omega) (fun N i hi hw next found none => ?_)
    show evP E88 G88 _ (lp88 2) (st88 xs i) (rk88 _ _ 2 _)
    rw [b88, hw, Int.toNat_natCast]
    refine br_dec (fun h2 => br_yes ⟨by omega, h2⟩ (br_dec (fun h3 => ?_) (fun h3 => ?_))) (fun h2 => ?_)
    · show _ = _
      rw [found (by omega) (decide_eq_true h3)]
    · exact next (by omega) (decide_eq_false h3)
    · show _ = _
      rw [none (by omega)]
  · exact h.elim
noncomputable def G61 : Gk := gk [(88, g88)]
theorem hg61 : HG Tryd.prog G61 := (hg_cons h88 hg_nil)
theorem e61 (L : Lp) (R : Option Res → Prop) (xs : List (Elem ks)) : (bodyP E0 G61 L Tryd.f61 [.rsl ks xs, .fn 62 []] [] R) = (
    br (decide (xs.length ≤ 1048576)) (R (some { av := vB (decide ((fIx xs.length fun i => decide ((↑(at1 xs i).size : Int) > 24)) ≥ 0)), obs := [], outs := [] })) False) := by kernel_rfl
theorem h61 : G1Ok Tryd.prog 61 g61 := by
  intro args obs k h
  unfold g61 at h
  split at h
  · rename_i k xs
    obtain ⟨hl, h⟩ := br_and h
    refine ⟨_, ctr_fn ok0 hg61 Tryd.func61 (by kernel_rfl) (by kernel_rfl) (by kernel_rfl) fun C => ?_, h⟩
    rw [e61]
    refine br_t hl ?_
    show _ = _
    rw [fIx_ge]
  · exact h.elim
noncomputable def E68 : Env := E0.of Tryd.f68
noncomputable def G68 : Gk := gk []
noncomputable def lp68 (n : Nat) : Code := (loopOf n (codeOf Tryd.f68)).getD .skip
noncomputable def ct68 (L : Lp) (R : Option Res → Prop) (n : Nat) : Kt := contOf E68 G68 L n (codeOf Tryd.f68) (endK E68 Tryd.f68.results.toList R)
noncomputable def rk68 (L : Lp) (R : Option Res → Prop) (n : Nat) (N : St → Prop) : Kt := rk (jof E68 (lp68 n)) N (ct68 L R n)
noncomputable def LOOP68 (L : Lp) (R : Option Res → Prop) (n : Nat) (st : St) : Prop := L (lp68 n) st (ct68 L R n)
theorem hg68 : HG Tryd.prog G68 := hg_nil
theorem okf68 : Ok Tryd.prog E68 := ok0.of Tryd.f68
theorem e68 (L : Lp) (R : Option Res → Prop) (xs : List (Elem kb)) (t : ByteArray) : (bodyP E0 G68 L Tryd.f68 [.agg [.rsl kb xs], .val (.string t)] [] R) = (
    LOOP68 L R 2 { tm := [AV.agg [AV.rsl kb xs], vS t, AV.ptr 0 0, vU, vI 0, vB false, vI 0, vJ, vJ, vJ, vJ, vJ, vJ, vJ, vJ, vJ, vJ, vJ, vJ, vJ, vJ, vJ, vJ, vJ, vU, vU, vU, vU, vU, vU, vU, vU, vU, vU, vU, vU, vU, vU, vU, vU], ob := [(0, AO.box [AV.rsl kb xs])], nx := 1000000, ps := [] }) := by kernel_rfl
def st68 (xs : List (Elem kb)) (t : ByteArray) (i : Int) : St :=  ⟨[AV.agg [AV.rsl kb xs], vS t, AV.ptr 0 0, vU, vI 0, vB false, .val (.int .i64 i), vJ, vJ, vJ, vJ, vJ, vJ, vJ, vJ, vJ, vJ, vJ, vJ, vJ, vJ, vJ, vJ, vJ, vU, vU, vU, vU, vU, vU, vU, vU, vU, vU, vU, vU, vU, vU, vU, vU], [(0, AO.box [AV.rsl kb xs])], 1000000, []⟩
theorem b68 (L : Lp) (R : Option Res → Prop) (N : St → Prop) (xs : List (Elem kb)) (t : ByteArray) (i : Int) : (evP E68 G68 L (lp68 2) (st68 xs t i) (rk68 L R 2 N)) = (
    br (decide (i < (↑xs.length : Int))) (br (decide (0 ≤ i ∧ i < (↑xs.length : Int))) (br (strLt (xs.getD i.toNat (edflt kb)).fst t) (N { tm := [AV.agg [AV.rsl kb xs], vS t, AV.ptr 0 0, vU, vI 0, vB false, vI (IntKind.i64.wrap (i + 1)), vJ, vJ, vJ, vJ, vJ, vJ, vJ, vJ, vJ, vJ, vJ, vJ, vJ, vJ, vJ, vJ, vJ, vU, vU, vU, vU, vU, vU, vU, vU, vU, vU, vU, vU, vU, vU, vU, vU], ob := [(0, AO.box [AV.rsl kb xs])], nx := 1000000, ps := [] }) (br (decide (i < (↑xs.length : Int))) (br (decide (0 ≤ i ∧ i < (↑xs.length : Int))) (R (some { av := AV.tup [vI i, vB (strEq (xs.getD i.toNat (edflt kb)).fst t)], obs := [], outs := [] })) False) (R (some { av := AV.tup [vI i, vB false], obs := [], outs := [] })))) False) (br (decide (i < (↑xs.length : Int))) (br (decide (0 ≤ i ∧ i < (↑xs.length : Int))) (R (some { av := AV.tup [vI i, vB (strEq (xs.getD i.toNat (edflt kb)).fst t)], obs := [], outs := [] })) False) (R (some { av := AV.tup [vI i, vB false], obs := [], outs := [] })))) := by kernel_rfl
theorem h68 : G1Ok Tryd.prog 68 g68 := by
  intro args obs k h
  unfold g68 at h
  split at h
  · rename_i k xs t
    obtain ⟨hl, h⟩ := brd h
    refine ⟨_, ctr_fn ok0 hg68 Tryd.func68 (by kernel_rfl) (by kernel_rfl) (by kernel_rfl) fun C => ?_, h⟩
    rw [e68]
    refine loopLn okf68 hg68 (fun i => st68 xs t i) xs.length (fun i => strLt (atB xs i).1 t) (by omega) (fun N i hi hw next stop last => ?_)
    show evP E68 G68 _ (lp68 2) (st68 xs t i) (rk68 _ _ 2 _)
    rw [b68, hw, Int.toNat_natCast]
    refine br_dec (fun h2 => br_yes ⟨by omega, h2⟩ (br_intro (fun h3 => ?_) (fun h3 => br_yes h2 (br_yes ⟨by omega, h2⟩ ?_)))) (fun h2 => br_no h2 ?_)
    · exact next (by omega) h3
    · show _ = _
      have e : lnB xs t = i := stop (by omega) h3
      unfold okB
      rw [e, decide_eq_true (show i < xs.length by omega), Bool.true_and]
    · show _ = _
      have e : lnB xs t = i := last (by omega)
      unfold okB
      rw [e, decide_eq_false (show ¬ i < xs.length by omega), Bool.false_and]
  · exact h.elim
noncomputable def G90 : Gk := gk []
theorem hg90 : HG Tryd.prog G90 := hg_nil
theorem e90 (L : Lp) (R : Option Res → Prop) (e : Elem kb) (s : Elem kb) : (bodyP E0 G90 L Tryd.f90 [.agg (setC e), .rpt (setC s)] [] R) = (
    R (some { av := vB (strEq e.fst s.snd.snd.fst), obs := [], outs := [] })) := by kernel_rfl
theorem h90 : G1Ok Tryd.prog 90 g90 := by
  intro args obs k h
  unfold g90 at h
  split at h
  · rename_i k us vs
    split at h
    rotate_left
    · exact h.elim
    rename_i a s ha hs
    obtain rfl := elemOf_inv ha
    obtain rfl := elemOf_inv hs
    refine ⟨_, ctr_fn ok0 hg90 Tryd.func90 (by kernel_rfl) (by kernel_rfl) (by kernel_rfl) fun C => ?_, h⟩
    show bodyP E0 G90 _ Tryd.f90 [.agg (setC a), .rpt (setC s)] [] _
    rw [e90]
  · exact h.elim
noncomputable def E89 : Env := E0.of Tryd.f89
noncomputable def G89 : Gk := gk [(90, g90)]
noncomputable def lp89 (n : Nat) : Code := (loopOf n (codeOf Tryd.f89)).getD .skip
noncomputable def ct89 (L : Lp) (R : Option Res → Prop) (n : Nat) : Kt := contOf E89 G89 L n (codeOf Tryd.f89) (endK E89 Tryd.f89.results.toList R)
noncomputable def rk89 (L : Lp) (R : Option Res → Prop) (n : Nat) (N : St → Prop) : Kt := rk (jof E89 (lp89 n)) N (ct89 L R n)
noncomputable def LOOP89 (L : Lp) (R : Option Res → Prop) (n : Nat) (st : St) : Prop := L (lp89 n) st (ct89 L R n)
theorem hg89 : HG Tryd.prog G89 := (hg_cons h90 hg_nil)
theorem okf89 : Ok Tryd.prog E89 := ok0.of Tryd.f89
theorem e89 (L : Lp) (R : Option Res → Prop) (xs : List (Elem kb)) (s : Elem kb) : (bodyP E0 G89 L Tryd.f89 [.rsl kb xs, .fn 90 [.rpt (setC s)]] [] R) = (
    LOOP89 L R 2 { tm := [AV.rsl kb xs, AV.fn 90 [AV.rpt [vS s.fst, vI s.snd.fst, vS s.snd.snd.fst, vS s.snd.snd.snd.fst, vS s.snd.snd.snd.snd.fst, vS s.snd.snd.snd.snd.snd.fst, vS s.snd.snd.snd.snd.snd.snd.fst, vS s.snd.snd.snd.snd.snd.snd.snd.fst, vS s.snd.snd.snd.snd.snd.snd.snd.snd.fst, vS s.snd.snd.snd.snd.snd.snd.snd.snd.snd.fst, vS s.snd.snd.snd.snd.snd.snd.snd.snd.snd.snd.fst]], vU, vU, vI 0, vJ, vJ, vI (↑xs.length : Int), vI 0, vJ, vJ, vJ, vJ, vJ, vJ, vJ, vJ, vJ, vJ], ob := [], nx := 1000000, ps := [] }) := by kernel_rfl
def st89 (xs : List (Elem kb)) (s : Elem kb) (i : Int) : St :=  ⟨[AV.rsl kb xs, AV.fn 90 [AV.rpt [vS s.fst, vI s.snd.fst, vS s.snd.snd.fst, vS s.snd.snd.snd.fst, vS s.snd.snd.snd.snd.fst, vS s.snd.snd.snd.snd.snd.fst, vS s.snd.snd.snd.snd.snd.snd.fst, vS s.snd.snd.snd.snd.snd.snd.snd.fst, vS s.snd.snd.snd.snd.snd.snd.snd.snd.fst, vS s.snd.snd.snd.snd.snd.snd.snd.snd.snd.fst, vS s.snd.snd.snd.snd.snd.snd.snd.snd.snd.snd.fst]], vU, vU, vI 0, vJ, vJ, vI (↑xs.length : Int), .val (.int .i64 i), vJ, vJ, vJ, vJ, vJ, vJ, vJ, vJ, vJ, vJ], [], 1000000, []⟩
theorem b89 (L : Lp) (R : Option Res → Prop) (N : St → Prop) (xs : List (Elem kb)) (s : Elem kb) (i : Int) : (evP E89 G89 L (lp89 2) (st89 xs s i) (rk89 L R 2 N)) = (
    br (decide (i < (↑xs.length : Int))) (br (decide (0 ≤ i ∧ i < (↑xs.length : Int))) (br (strEq (xs.getD i.toNat (edflt kb)).fst s.snd.snd.fst) (R (some { av := vI i, obs := [], outs := [] })) (N { tm := [AV.rsl kb xs, AV.fn 90 [AV.rpt [vS s.fst, vI s.snd.fst, vS s.snd.snd.fst, vS s.snd.snd.snd.fst, vS s.snd.snd.snd.snd.fst, vS s.snd.snd.snd.snd.snd.fst, vS s.snd.snd.snd.snd.snd.snd.fst, vS s.snd.snd.snd.snd.snd.snd.snd.fst, vS s.snd.snd.snd.snd.snd.snd.snd.snd.fst, vS s.snd.snd.snd.snd.snd.snd.snd.snd.snd.fst, vS s.snd.snd.snd.snd.snd.snd.snd.snd.snd.snd.fst]], vU, vU, vI 0, vJ, vJ, vI (↑xs.length : Int), vI (IntKind.i64.wrap (i + 1)), vJ, vJ, vJ, vJ, vJ, vJ, vJ, vJ, vJ, vJ], ob := [], nx := 1000000, ps := [] })) False) (R (some { av := vI (-1), obs := [], outs := [] }))) := by kernel_rfl
theorem h89 : G1Ok Tryd.prog 89 g89 := by
  intro args obs k h
  unfold g89 at h
  split at h
  · rename_i k xs vs
    split at h
    rotate_left
    · exact h.elim
    rename_i s hs
    obtain rfl := elemOf_inv hs
    obtain ⟨hl, h⟩ := brd h
    refine ⟨_, ctr_fn ok0 hg89 Tryd.func89 (by kernel_rfl) (by kernel_rfl) (by kernel_rfl) fun C => ?_, h⟩
    show bodyP E0 G89 _ Tryd.f89 [.rsl kb xs, .fn 90 [.rpt (setC s)]] [] _
    rw [e89]
    refine loopFd okf89 hg89 (fun i => st89 xs s i) xs.length (fun i => strEq (atB xs i).1 s.2.2.1) (by omega) (fun N i hi hw next found none => ?_)
    show evP E89 G89 _ (lp89 2) (st89 xs s i) (rk89 _ _ 2 _)
    rw [b89, hw, Int.toNat_natCast]
    refine br_dec (fun h2 => br_yes ⟨by omega, h2⟩ (br_intro (fun h3 => ?_) (fun h3 => ?_))) (fun h2 => ?_)
    · show _ = _
      rw [show fdB xs s.2.2.1 = some i from found (by omega) h3]
      rfl
    · exact next (by omega) h3
    · show _ = _
      rw [show fdB xs s.2.2.1 = Option.none from none (by omega)]
      rfl
  · exact h.elim
def bks (e : Elem kb) : List (Elem ks) := [(e.2.2.2.1, ()), (e.2.2.2.2.1, ()), (e.2.2.2.2.2.1, ()), (e.2.2.2.2.2.2.1, ()), (e.2.2.2.2.2.2.2.1, ()), (e.2.2.2.2.2.2.2.2.1, ()), (e.2.2.2.2.2.2.2.2.2.1, ()), (e.2.2.2.2.2.2.2.2.2.2.1, ())]
def ldB (xs : List (Elem kb)) : Nat → Elem kb → Bool
  | 0, _ => false
  | m + 1, s => match strEq s.2.2.1 ⟨#[]⟩ with
    | true => s.2.1 == 1
    | false => match fdB xs s.2.2.1 with
      | none => false
      | some k => match (atB xs k).2.1 == s.2.1 with
        | true => false
        | false => ldB xs m (atB xs k)
def rtB (xs : List (Elem kb)) : Nat → Elem kb → Bool
  | 0, _ => false
  | m + 1, s => match strEq s.2.2.1 ⟨#[]⟩ with
    | true => s.2.1 == 1
    | false => match okB xs s.2.2.1 with
      | false => false
      | true => match (atB xs (lnB xs s.2.2.1)).2.1 == s.2.1 with
        | true => false
        | false => rtB xs m (atB xs (lnB xs s.2.2.1))
def g65 : G1
  | [.agg [.rsl [.str, .int .i64, .str, .str, .str, .str, .str, .str, .str, .str, .str] xs], .agg us], [], k => match elemOf kb us with
    | some s => br (decide (xs.length ≤ 1048576)) (k ⟨.val (.bool (ldB xs xs.length s)), [], []⟩) False
    | none => False
  | _, _, _ => False
def g44 : G1
  | [.agg [.rsl [.str, .int .i64, .str, .str, .str, .str, .str, .str, .str, .str, .str] xs], .agg us], [], k => match elemOf kb us with
    | some s => br (decide (xs.length ≤ 1048576)) (k ⟨.val (.bool (rtB xs (xs.length + 1) s)), [], []⟩) False
    | none => False
  | _, _, _ => False
noncomputable def E65 : Env := E0.of Tryd.f65
noncomputable def G65 : Gk := gk [(89, g89)]
noncomputable def lp65 (n : Nat) : Code := (loopOf n (codeOf Tryd.f65)).getD .skip
noncomputable def ct65 (L : Lp) (R : Option Res → Prop) (n : Nat) : Kt := contOf E65 G65 L n (codeOf Tryd.f65) (endK E65 Tryd.f65.results.toList R)
noncomputable def rk65 (L : Lp) (R : Option Res → Prop) (n : Nat) (N : St → Prop) : Kt := rk (jof E65 (lp65 n)) N (ct65 L R n)
noncomputable def LOOP65 (L : Lp) (R : Option Res → Prop) (n : Nat) (st : St) : Prop := L (lp65 n) st (ct65 L R n)
theorem hg65 : HG Tryd.prog G65 := (hg_cons h89 hg_nil)
theorem okf65 : Ok Tryd.prog E65 := ok0.of Tryd.f65
theorem e65 (L : Lp) (R : Option Res → Prop) (xs : List (Elem kb)) (s : Elem kb) : (bodyP E0 G65 L Tryd.f65 [.agg [.rsl kb xs], .agg (setC s)] [] R) = (
    LOOP65 L R 2 { tm := [AV.agg [AV.rsl kb xs], AV.agg [vS s.fst, vI s.snd.fst, vS s.snd.snd.fst, vS s.snd.snd.snd.fst, vS s.snd.snd.snd.snd.fst, vS s.snd.snd.snd.snd.snd.fst, vS s.snd.snd.snd.snd.snd.snd.fst, vS s.snd.snd.snd.snd.snd.snd.snd.fst, vS s.snd.snd.snd.snd.snd.snd.snd.snd.fst, vS s.snd.snd.snd.snd.snd.snd.snd.snd.snd.fst, vS s.snd.snd.snd.snd.snd.snd.snd.snd.snd.snd.fst], AV.ptr 0 0, AV.ptr 1 0, vB false, vJ, vJ, vJ, vI (↑xs.length : Int), vI 0, vJ, vJ, vJ, vJ, vJ, vJ, vJ, vJ, vJ, vJ, vJ, vJ, vJ, vJ, vJ, vJ, vJ, vJ, vJ, vJ, vJ, vJ, vJ, vJ, vJ, vJ, vJ, vJ, vJ, vJ], ob := [(0, AO.box [AV.rsl kb xs]), (1, AO.box [vS s.fst, vI s.snd.fst, vS s.snd.snd.fst, vS s.snd.snd.snd.fst, vS s.snd.snd.snd.snd.fst, vS s.snd.snd.snd.snd.snd.fst, vS s.snd.snd.snd.snd.snd.snd.fst, vS s.snd.snd.snd.snd.snd.snd.snd.fst, vS s.snd.snd.snd.snd.snd.snd.snd.snd.fst, vS s.snd.snd.snd.snd.snd.snd.snd.snd.snd.fst, vS s.snd.snd.snd.snd.snd.snd.snd.snd.snd.snd.fst])], nx := 1000000, ps := [] }) := by kernel_rfl
def st65 (xs : List (Elem kb)) (s u : Elem kb) (i : Int) : St :=  ⟨[AV.agg [AV.rsl kb xs], AV.agg [vS s.fst, vI s.snd.fst, vS s.snd.snd.fst, vS s.snd.snd.snd.fst, vS s.snd.snd.snd.snd.fst, vS s.snd.snd.snd.snd.snd.fst, vS s.snd.snd.snd.snd.snd.snd.fst, vS s.snd.snd.snd.snd.snd.snd.snd.fst, vS s.snd.snd.snd.snd.snd.snd.snd.snd.fst, vS s.snd.snd.snd.snd.snd.snd.snd.snd.snd.fst, vS s.snd.snd.snd.snd.snd.snd.snd.snd.snd.snd.fst], AV.ptr 0 0, AV.ptr 1 0, vB false, vJ, vJ, vJ, vI (↑xs.length : Int), .val (.int .i64 i), vJ, vJ, vJ, vJ, vJ, vJ, vJ, vJ, vJ, vJ, vJ, vJ, vJ, vJ, vJ, vJ, vJ, vJ, vJ, vJ, vJ, vJ, vJ, vJ, vJ, vJ, vJ, vJ, vJ, vJ], [(0, AO.box [AV.rsl kb xs]), (1, .box (setC u))], 1000000, []⟩
theorem b65 (L : Lp) (R : Option Res → Prop) (N : St → Prop) (xs : List (Elem kb)) (s u : Elem kb) (i : Int) : (evP E65 G65 L (lp65 2) (st65 xs s u i) (rk65 L R 2 N)) = (
    br (decide (i < (↑xs.length : Int))) (br (strEq u.snd.snd.fst { data := #[] }) (R (some { av := vB (u.snd.fst == 1), obs := [], outs := [] })) (br (decide (xs.length ≤ 1048576)) (br (decide (ixO (fdB xs u.snd.snd.fst) < 0)) (R (some { av := vB false, obs := [], outs := [] })) (br (decide (0 ≤ ixO (fdB xs u.snd.snd.fst) ∧ ixO (fdB xs u.snd.snd.fst) < (↑xs.length : Int))) (br ((xs.getD (ixO (fdB xs u.snd.snd.fst)).toNat (edflt kb)).snd.fst == u.snd.fst) (R (some { av := vB false, obs := [], outs := [] })) (br (decide (0 ≤ ixO (fdB xs u.snd.snd.fst) ∧ ixO (fdB xs u.snd.snd.fst) < (↑xs.length : Int))) (N { tm := [AV.agg [AV.rsl kb xs], AV.agg [vS s.fst, vI s.snd.fst, vS s.snd.snd.fst, vS s.snd.snd.snd.fst, vS s.snd.snd.snd.snd.fst, vS s.snd.snd.snd.snd.snd.fst, vS s.snd.snd.snd.snd.snd.snd.fst, vS s.snd.snd.snd.snd.snd.snd.snd.fst, vS s.snd.snd.snd.snd.snd.snd.snd.snd.fst, vS s.snd.snd.snd.snd.snd.snd.snd.snd.snd.fst, vS s.snd.snd.snd.snd.snd.snd.snd.snd.snd.snd.fst], AV.ptr 0 0, AV.ptr 1 0, vB false, vJ, vJ, vJ, vI (↑xs.length : Int), vI (IntKind.i64.wrap (i + 1)), vJ, vJ, vJ, vJ, vJ, vJ, vJ, vJ, vJ, vJ, vJ, vJ, vJ, vJ, vJ, vJ, vJ, vJ, vJ, vJ, vJ, vJ, vJ, vJ, vJ, vJ, vJ, vJ, vJ, vJ], ob := [(0, AO.box [AV.rsl kb xs]), (1, AO.box [vS (xs.getD (ixO (fdB xs u.snd.snd.fst)).toNat (edflt kb)).fst, vI (xs.getD (ixO (fdB xs u.snd.snd.fst)).toNat (edflt kb)).snd.fst, vS (xs.getD (ixO (fdB xs u.snd.snd.fst)).toNat (edflt kb)).snd.snd.fst, vS (xs.getD (ixO (fdB xs u.snd.snd.fst)).toNat (edflt kb)).snd.snd.snd.fst, vS (xs.getD (ixO (fdB xs u.snd.snd.fst)).toNat (edflt kb)).snd.snd.snd.snd.fst, vS (xs.getD (ixO (fdB xs u.snd.snd.fst)).toNat (edflt kb)).snd.snd.snd.snd.snd.fst, vS (xs.getD (ixO (fdB xs u.snd.snd.fst)).toNat (edflt kb)).snd.snd.snd.snd.snd.snd.fst, vS (xs.getD (ixO (fdB xs u.snd.snd.fst)).toNat (edflt kb)).snd.snd.snd.snd.snd.snd.snd.fst, vS (xs.getD (ixO (fdB xs u.snd.snd.fst)).toNat (edflt kb)).snd.snd.snd.snd.snd.snd.snd.snd.fst, vS (xs.getD (ixO (fdB xs u.snd.snd.fst)).toNat (edflt kb)).snd.snd.snd.snd.snd.snd.snd.snd.snd.fst, vS (xs.getD (ixO (fdB xs u.snd.snd.fst)).toNat (edflt kb)).snd.snd.snd.snd.snd.snd.snd.snd.snd.snd.fst])], nx := 1000000, ps := [] }) False)) False)) False)) (R (some { av := vB false, obs := [], outs := [] }))) := by kernel_rfl
theorem ldB_root {xs : List (Elem kb)} {m : Nat} {u : Elem kb} (h : strEq u.2.2.1 ⟨#[]⟩ = true) : ldB xs (m + 1) u = (u.2.1 == 1) := by unfold ldB; rw [h]
theorem ldB_none {xs : List (Elem kb)} {m : Nat} {u : Elem kb} (h : strEq u.2.2.1 ⟨#[]⟩ = false) (h2 : fdB xs u.2.2.1 = none) : ldB xs (m + 1) u = false := by unfold ldB; rw [h, h2]
theorem ldB_some {xs : List (Elem kb)} {m : Nat} {u : Elem kb} {k : Nat} (h : strEq u.2.2.1 ⟨#[]⟩ = false) (h2 : fdB xs u.2.2.1 = some k) : ldB xs (m + 1) u = match (atB xs k).2.1 == u.2.1 with | true => false | false => ldB xs m (atB xs k) := by
  conv => lhs; unfold ldB
  rw [h, h2]
theorem rtB_root {xs : List (Elem kb)} {m : Nat} {u : Elem kb} (h : strEq u.2.2.1 ⟨#[]⟩ = true) : rtB xs (m + 1) u = (u.2.1 == 1) := by unfold rtB; rw [h]
theorem rtB_none {xs : List (Elem kb)} {m : Nat} {u : Elem kb} (h : strEq u.2.2.1 ⟨#[]⟩ = false) (h2 : okB xs u.2.2.1 = false) : rtB xs (m + 1) u = false := by unfold rtB; rw [h, h2]
theorem rtB_some {xs : List (Elem kb)} {m : Nat} {u : Elem kb} (h : strEq u.2.2.1 ⟨#[]⟩ = false) (h2 : okB xs u.2.2.1 = true) : rtB xs (m + 1) u = match (atB xs (lnB xs u.2.2.1)).2.1 == u.2.1 with | true => false | false => rtB xs m (atB xs (lnB xs u.2.2.1)) := by
  conv => lhs; unfold rtB
  rw [h, h2]
theorem fdB_lt {xs : List (Elem kb)} {t : ByteArray} {k : Nat} (h : fdB xs t = some k) : k < xs.length := by
  unfold fdB fd at h
  have := List.mem_of_find?_eq_some h
  simpa using this
theorem h65 : G1Ok Tryd.prog 65 g65 := by
  intro args obs k h
  unfold g65 at h
  split at h
  · rename_i k xs us
    split at h
    rotate_left
    · exact h.elim
    rename_i s hs
    obtain rfl := elemOf_inv hs
    obtain ⟨hl, h⟩ := br_and h
    have hl' := of_decide_eq_true hl
    refine ⟨_, ctr_fn ok0 hg65 Tryd.func65 (by kernel_rfl) (by kernel_rfl) (by kernel_rfl) fun C => ?_, h⟩
    show bodyP E0 G65 _ Tryd.f65 [.agg [.rsl kb xs], .agg (setC s)] [] _
    rw [e65]
    refine loopUp okf65 hg65 (fun i u => st65 xs s u i) xs.length (fun i u => ldB xs (xs.length - i) u = ldB xs xs.length s) (fun N i u hi hu next => ?_) s rfl
    show evP E65 G65 _ (lp65 2) (st65 xs s u i) (rk65 _ _ 2 _)
    rw [b65, wrap_id (n := (i : Int) + 1) (by omega) (by omega)]
    refine br_dec (fun h2 => ?_) (fun h2 => ?_)
    · have e : xs.length - i = (xs.length - (i + 1)) + 1 := by omega
      rw [e] at hu
      refine br_intro (fun h3 => ?_) (fun h3 => br_t hl ?_)
      · rw [ldB_root h3] at hu
        show _ = _
        rw [← hu]
      cases hf : fdB xs u.2.2.1 with
      | none =>
        rw [ldB_none h3 hf] at hu
        refine br_yes (by decide) ?_
        show _ = _
        rw [← hu]
      | some k =>
        rw [ldB_some h3 hf] at hu
        have hk := fdB_lt hf
        have e1 : ixO (some k) = (k : Int) := rfl
        rw [e1, Int.toNat_natCast]
        refine br_no (by omega) (br_yes ⟨by omega, by omega⟩ (br_intro (fun h4 => ?_) (fun h4 => br_yes ⟨by omega, by omega⟩ ?_)))
        · have h4' : ((atB xs k).2.1 == u.2.1) = true := h4
          rw [h4'] at hu
          show _ = _
          rw [← hu]
        · have h4' : ((atB xs k).2.1 == u.2.1) = false := h4
          rw [h4'] at hu
          exact next (by omega) (atB xs k) hu
    · have e : xs.length - i = 0 := by omega
      rw [e] at hu
      show _ = _
      rw [← hu]
      rfl
  · exact h.elim
noncomputable def E44 : Env := E0.of Tryd.f44
noncomputable def G44 : Gk := gk [(68, g68)]
noncomputable def lp44 (n : Nat) : Code := (loopOf n (codeOf Tryd.f44)).getD .skip
noncomputable def ct44 (L : Lp) (R : Option Res → Prop) (n : Nat) : Kt := contOf E44 G44 L n (codeOf Tryd.f44) (endK E44 Tryd.f44.results.toList R)
noncomputable def rk44 (L : Lp) (R : Option Res → Prop) (n : Nat) (N : St → Prop) : Kt := rk (jof E44 (lp44 n)) N (ct44 L R n)
noncomputable def LOOP44 (L : Lp) (R : Option Res → Prop) (n : Nat) (st : St) : Prop := L (lp44 n) st (ct44 L R n)
theorem hg44 : HG Tryd.prog G44 := (hg_cons h68 hg_nil)
theorem okf44 : Ok Tryd.prog E44 := ok0.of Tryd.f44
theorem e44 (L : Lp) (R : Option Res → Prop) (xs : List (Elem kb)) (s : Elem kb) : (bodyP E0 G44 L Tryd.f44 [.agg [.rsl kb xs], .agg (setC s)] [] R) = (
    LOOP44 L R 2 { tm := [AV.agg [AV.rsl kb xs], AV.agg [vS s.fst, vI s.snd.fst, vS s.snd.snd.fst, vS s.snd.snd.snd.fst, vS s.snd.snd.snd.snd.fst, vS s.snd.snd.snd.snd.snd.fst, vS s.snd.snd.snd.snd.snd.snd.fst, vS s.snd.snd.snd.snd.snd.snd.snd.fst, vS s.snd.snd.snd.snd.snd.snd.snd.snd.fst, vS s.snd.snd.snd.snd.snd.snd.snd.snd.snd.fst, vS s.snd.snd.snd.snd.snd.snd.snd.snd.snd.snd.fst], AV.ptr 0 0, AV.ptr 1 0, vB false, vI 0, vJ, vJ, vJ, vJ, vJ, vJ, vJ, vJ, vJ, vJ, vJ, vJ, vJ, vJ, vJ, vJ, vJ, vJ, vJ, vJ, vJ, vJ, vJ, vJ, vJ, vJ, vJ, vJ, vJ, vJ, vJ, vJ, vJ, vJ, vJ, vJ, vJ, vJ, vJ, vJ], ob := [(0, AO.box [AV.rsl kb xs]), (1, AO.box [vS s.fst, vI s.snd.fst, vS s.snd.snd.fst, vS s.snd.snd.snd.fst, vS s.snd.snd.snd.snd.fst, vS s.snd.snd.snd.snd.snd.fst, vS s.snd.snd.snd.snd.snd.snd.fst, vS s.snd.snd.snd.snd.snd.snd.snd.fst, vS s.snd.snd.snd.snd.snd.snd.snd.snd.fst, vS s.snd.snd.snd.snd.snd.snd.snd.snd.snd.fst, vS s.snd.snd.snd.snd.snd.snd.snd.snd.snd.snd.fst])], nx := 1000000, ps := [] }) := by kernel_rfl
def st44 (xs : List (Elem kb)) (s u : Elem kb) (i : Int) : St :=  ⟨[AV.agg [AV.rsl kb xs], AV.agg [vS s.fst, vI s.snd.fst, vS s.snd.snd.fst, vS s.snd.snd.snd.fst, vS s.snd.snd.snd.snd.fst, vS s.snd.snd.snd.snd.snd.fst, vS s.snd.snd.snd.snd.snd.snd.fst, vS s.snd.snd.snd.snd.snd.snd.snd.fst, vS s.snd.snd.snd.snd.snd.snd.snd.snd.fst, vS s.snd.snd.snd.snd.snd.snd.snd.snd.snd.fst, vS s.snd.snd.snd.snd.snd.snd.snd.snd.snd.snd.fst], AV.ptr 0 0, AV.ptr 1 0, vB false, .val (.int .i64 i), vJ, vJ, vJ, vJ, vJ, vJ, vJ, vJ, vJ, vJ, vJ, vJ, vJ, vJ, vJ, vJ, vJ, vJ, vJ, vJ, vJ, vJ, vJ, vJ, vJ, vJ, vJ, vJ, vJ, vJ, vJ, vJ, vJ, vJ, vJ, vJ, vJ, vJ, vJ, vJ], [(0, AO.box [AV.rsl kb xs]), (1, .box (setC u))], 1000000, []⟩
theorem b44 (L : Lp) (R : Option Res → Prop) (N : St → Prop) (xs : List (Elem kb)) (s u : Elem kb) (i : Int) : (evP E44 G44 L (lp44 2) (st44 xs s u i) (rk44 L R 2 N)) = (
    br (decide (i ≤ (↑xs.length : Int))) (br (strEq u.snd.snd.fst { data := #[] }) (R (some { av := vB (u.snd.fst == 1), obs := [], outs := [] })) (br (decide (xs.length ≤ 1048576)) (br (!okB xs u.snd.snd.fst) (R (some { av := vB false, obs := [], outs := [] })) (br (decide (0 ≤ (↑(lnB xs u.snd.snd.fst) : Int) ∧ (↑(lnB xs u.snd.snd.fst) : Int) < (↑xs.length : Int))) (br ((xs.getD (↑(lnB xs u.snd.snd.fst) : Int).toNat (edflt kb)).snd.fst == u.snd.fst) (R (some { av := vB false, obs := [], outs := [] })) (br (decide (0 ≤ (↑(lnB xs u.snd.snd.fst) : Int) ∧ (↑(lnB xs u.snd.snd.fst) : Int) < (↑xs.length : Int))) (N { tm := [AV.agg [AV.rsl kb xs], AV.agg [vS s.fst, vI s.snd.fst, vS s.snd.snd.fst, vS s.snd.snd.snd.fst, vS s.snd.snd.snd.snd.fst, vS s.snd.snd.snd.snd.snd.fst, vS s.snd.snd.snd.snd.snd.snd.fst, vS s.snd.snd.snd.snd.snd.snd.snd.fst, vS s.snd.snd.snd.snd.snd.snd.snd.snd.fst, vS s.snd.snd.snd.snd.snd.snd.snd.snd.snd.fst, vS s.snd.snd.snd.snd.snd.snd.snd.snd.snd.snd.fst], AV.ptr 0 0, AV.ptr 1 0, vB false, vI (IntKind.i64.wrap (i + 1)), vJ, vJ, vJ, vJ, vJ, vJ, vJ, vJ, vJ, vJ, vJ, vJ, vJ, vJ, vJ, vJ, vJ, vJ, vJ, vJ, vJ, vJ, vJ, vJ, vJ, vJ, vJ, vJ, vJ, vJ, vJ, vJ, vJ, vJ, vJ, vJ, vJ, vJ, vJ, vJ], ob := [(0, AO.box [AV.rsl kb xs]), (1, AO.box [vS (xs.getD (↑(lnB xs u.snd.snd.fst) : Int).toNat (edflt kb)).fst, vI (xs.getD (↑(lnB xs u.snd.snd.fst) : Int).toNat (edflt kb)).snd.fst, vS (xs.getD (↑(lnB xs u.snd.snd.fst) : Int).toNat (edflt kb)).snd.snd.fst, vS (xs.getD (↑(lnB xs u.snd.snd.fst) : Int).toNat (edflt kb)).snd.snd.snd.fst, vS (xs.getD (↑(lnB xs u.snd.snd.fst) : Int).toNat (edflt kb)).snd.snd.snd.snd.fst, vS (xs.getD (↑(lnB xs u.snd.snd.fst) : Int).toNat (edflt kb)).snd.snd.snd.snd.snd.fst, vS (xs.getD (↑(lnB xs u.snd.snd.fst) : Int).toNat (edflt kb)).snd.snd.snd.snd.snd.snd.fst, vS (xs.getD (↑(lnB xs u.snd.snd.fst) : Int).toNat (edflt kb)).snd.snd.snd.snd.snd.snd.snd.fst, vS (xs.getD (↑(lnB xs u.snd.snd.fst) : Int).toNat (edflt kb)).snd.snd.snd.snd.snd.snd.snd.snd.fst, vS (xs.getD (↑(lnB xs u.snd.snd.fst) : Int).toNat (edflt kb)).snd.snd.snd.snd.snd.snd.snd.snd.snd.fst, vS (xs.getD (↑(lnB xs u.snd.snd.fst) : Int).toNat (edflt kb)).snd.snd.snd.snd.snd.snd.snd.snd.snd.snd.fst])], nx := 1000000, ps := [] }) False)) False)) False)) (R (some { av := vB false, obs := [], outs := [] }))) := by kernel_rfl
theorem h44 : G1Ok Tryd.prog 44 g44 := by
  intro args obs k h
  unfold g44 at h
  split at h
  · rename_i k xs us
    split at h
    rotate_left
    · exact h.elim
    rename_i s hs
    obtain rfl := elemOf_inv hs
    obtain ⟨hl, h⟩ := br_and h
    have hl' := of_decide_eq_true hl
    refine ⟨_, ctr_fn ok0 hg44 Tryd.func44 (by kernel_rfl) (by kernel_rfl) (by kernel_rfl) fun C => ?_, h⟩
    show bodyP E0 G44 _ Tryd.f44 [.agg [.rsl kb xs], .agg (setC s)] [] _
    rw [e44]
    refine loopUp okf44 hg44 (fun i u => st44 xs s u i) (xs.length + 1) (fun i u => rtB xs (xs.length + 1 - i) u = rtB xs (xs.length + 1) s) (fun N i u hi hu next => ?_) s rfl
    show evP E44 G44 _ (lp44 2) (st44 xs s u i) (rk44 _ _ 2 _)
    rw [b44, wrap_id (n := (i : Int) + 1) (by omega) (by omega)]
    refine br_dec (fun h2 => ?_) (fun h2 => ?_)
    · have e : xs.length + 1 - i = (xs.length - i) + 1 := by omega
      rw [e] at hu
      refine br_intro (fun h3 => ?_) (fun h3 => br_t hl ?_)
      · rw [rtB_root h3] at hu
        show _ = _
        rw [← hu]
      refine br_not (fun h4 => ?_) (fun h4 => ?_)
      · rw [rtB_none h3 h4] at hu
        show _ = _
        rw [← hu]
      · rw [rtB_some h3 h4] at hu
        have hk : lnB xs u.2.2.1 < xs.length := by
          unfold okB at h4
          simp only [Bool.and_eq_true, decide_eq_true_eq] at h4
          exact h4.1
        rw [Int.toNat_natCast]
        refine br_yes ⟨by omega, by omega⟩ (br_intro (fun h4 => ?_) (fun h4 => br_yes ⟨by omega, by omega⟩ ?_))
        · have h4' : ((atB xs (lnB xs u.2.2.1)).2.1 == u.2.1) = true := h4
          rw [h4'] at hu
          show _ = _
          rw [← hu]
        · have h4' : ((atB xs (lnB xs u.2.2.1)).2.1 == u.2.1) = false := h4
          rw [h4'] at hu
          have e2 : xs.length + 1 - (i + 1) = xs.length - i := by omega
          exact next (by omega) (atB xs (lnB xs u.2.2.1)) (by rw [e2]; exact hu)
    · have e : xs.length + 1 - i = 0 := by omega
      rw [e] at hu
      show _ = _
      rw [← hu]
      rfl
  · exact h.elim
end Go.Proofs.YtkjnijddbiconaaDoor.Ev
