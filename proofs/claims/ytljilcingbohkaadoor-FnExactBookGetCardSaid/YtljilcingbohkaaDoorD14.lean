/- Books that are valid: contracts. -/
import Derived.Test.YtljilcingbohkaaDoorD13
namespace Go.Proofs.YtljilcingbohkaaDoor.Ev
open Go
set_option linter.unusedVariables false
set_option linter.unusedSimpArgs false
set_option maxRecDepth 100000
def g64 : G1
  | [.val (.string t)], [], k => k ⟨.val (.bool (decide ((t.size : Int) > 24))), [], []⟩
  | _, _, _ => False
def at1 (xs : List (Elem ks)) (i : Nat) : ByteArray := (xs.getD i (edflt ks)).1
def g92 : G1
  | [.rsl [.str] xs, .fn 64 []], [], k => br (decide (xs.length ≤ 1048576)) (k ⟨.val (.int .i64 (fIx xs.length fun i => decide (((at1 xs i).size : Int) > 24))), [], []⟩) False
  | _, _, _ => False
def g63 : G1
  | [.rsl [.str] xs, .fn 64 []], [], k => br (decide (xs.length ≤ 1048576)) (k ⟨.val (.bool (anyB xs.length fun i => decide (((at1 xs i).size : Int) > 24))), [], []⟩) False
  | _, _, _ => False
def setC (e : Elem kb) : List AV := [.val (.string e.1), .val (.int .i64 e.2.1), .val (.string e.2.2.1), .val (.string e.2.2.2.1), .val (.string e.2.2.2.2.1), .val (.string e.2.2.2.2.2.1), .val (.string e.2.2.2.2.2.2.1), .val (.string e.2.2.2.2.2.2.2.1), .val (.string e.2.2.2.2.2.2.2.2.1), .val (.string e.2.2.2.2.2.2.2.2.2.1), .val (.string e.2.2.2.2.2.2.2.2.2.2.1)]
abbrev atB (xs : List (Elem kb)) (i : Nat) : Elem kb := xs.getD i (edflt kb)
def lnB (xs : List (Elem kb)) (t : ByteArray) : Nat := ln (fun i => strLt (atB xs i).1 t) xs.length
def okB (xs : List (Elem kb)) (t : ByteArray) : Bool := decide (lnB xs t < xs.length) && strEq (atB xs (lnB xs t)).1 t
def g69 : G1
  | [.agg [.rsl [.str, .int .i64, .str, .str, .str, .str, .str, .str, .str, .str, .str] xs], .val (.string t)], [], k => br (decide (xs.length ≤ 1048576)) (k ⟨.tup [.val (.int .i64 (lnB xs t)), .val (.bool (okB xs t))], [], []⟩) False
  | _, _, _ => False
def g98 : G1
  | [.val (.string a), .val (.string b)], [], k => k ⟨.val (.int .i64 (cmpS a b)), [], []⟩
  | _, _, _ => False
def g97 : G1
  | [.agg us, .val (.string t)], [], k => match elemOf kb us with
    | some a => k ⟨.val (.int .i64 (cmpS a.1 t)), [], []⟩
    | none => False
  | _, _, _ => False
def bsB (xs : List (Elem kb)) (t : ByteArray) : Nat := bsf (fun i => strLt (atB xs i).1 t) 0 xs.length
def bkB (xs : List (Elem kb)) (t : ByteArray) : Bool := decide (bsB xs t < xs.length) && strEq (atB xs (bsB xs t)).1 t
def g96 : G1
  | [.rsl [.str, .int .i64, .str, .str, .str, .str, .str, .str, .str, .str, .str] xs, .val (.string t), .fn 97 []], [], k => br (decide (xs.length ≤ 1048576)) (k ⟨.tup [.val (.int .i64 (bsB xs t)), .val (.bool (bkB xs t))], [], []⟩) False
  | _, _, _ => False
def g71 : G1
  | [.agg [.rsl [.str, .int .i64, .str, .str, .str, .str, .str, .str, .str, .str, .str] xs], .val (.string t)], [], k => br (decide (xs.length ≤ 1048576)) (k ⟨.tup [.val (.int .i64 (bsB xs t)), .val (.bool (bkB xs t))], [], []⟩) False
  | _, _, _ => False
def g94 : G1
  | [.agg us, .rpt vs], [], k => match elemOf kb us, elemOf kb vs with
    | some a, some s => k ⟨.val (.bool (strEq a.1 s.2.2.1)), [], []⟩
    | _, _ => False
  | _, _, _ => False
def fdB (xs : List (Elem kb)) (t : ByteArray) : Option Nat := fd xs.length fun i => strEq (atB xs i).1 t
def ixO : Option Nat → Int
  | some k => k
  | none => -1
def g93 : G1
  | [.rsl [.str, .int .i64, .str, .str, .str, .str, .str, .str, .str, .str, .str] xs, .fn 94 [.rpt vs]], [], k => match elemOf kb vs with
    | some s => br (decide (xs.length ≤ 1048576)) (k ⟨.val (.int .i64 (ixO (fdB xs s.2.2.1))), [], []⟩) False
    | none => False
  | _, _, _ => False
noncomputable def E64 : Env := E0.of Tryd.f64
noncomputable def G64 : Gk := gk []
noncomputable def lp64 (n : Nat) : Code := (loopOf n (codeOf Tryd.f64)).getD .skip
noncomputable def ct64 (L : Lp) (R : Option Res → Prop) (n : Nat) : Kt := contOf E64 G64 L n (codeOf Tryd.f64) (endK E64 Tryd.f64.results.toList R)
noncomputable def rk64 (L : Lp) (R : Option Res → Prop) (n : Nat) (N : St → Prop) : Kt := rk (jof E64 (lp64 n)) N (ct64 L R n)
noncomputable def LOOP64 (L : Lp) (R : Option Res → Prop) (n : Nat) (st : St) : Prop := L (lp64 n) st (ct64 L R n)
theorem hg64 : HG Tryd.prog G64 := hg_nil
theorem okf64 : Ok Tryd.prog E64 := ok0.of Tryd.f64
theorem e64 (L : Lp) (R : Option Res → Prop) (t : ByteArray) : (bodyP E0 G64 L Tryd.f64 [.val (.string t)] [] R) = (
    R (some { av := vB (decide ((↑t.size : Int) > 24)), obs := [], outs := [] })) := by kernel_rfl
theorem h64 : G1Ok Tryd.prog 64 g64 := by
  intro args obs k h
  unfold g64 at h
  split at h
  · rename_i k t
    refine ⟨_, ctr_fn ok0 hg64 Tryd.func64 (by kernel_rfl) (by kernel_rfl) (by kernel_rfl) fun C => ?_, h⟩
    rw [e64]
  · exact h.elim
noncomputable def E92 : Env := E0.of Tryd.f92
noncomputable def G92 : Gk := gk [(64, g64)]
noncomputable def lp92 (n : Nat) : Code := (loopOf n (codeOf Tryd.f92)).getD .skip
noncomputable def ct92 (L : Lp) (R : Option Res → Prop) (n : Nat) : Kt := contOf E92 G92 L n (codeOf Tryd.f92) (endK E92 Tryd.f92.results.toList R)
noncomputable def rk92 (L : Lp) (R : Option Res → Prop) (n : Nat) (N : St → Prop) : Kt := rk (jof E92 (lp92 n)) N (ct92 L R n)
noncomputable def LOOP92 (L : Lp) (R : Option Res → Prop) (n : Nat) (st : St) : Prop := L (lp92 n) st (ct92 L R n)
theorem hg92 : HG Tryd.prog G92 := (hg_cons h64 hg_nil)
theorem okf92 : Ok Tryd.prog E92 := ok0.of Tryd.f92
theorem e92 (L : Lp) (R : Option Res → Prop) (xs : List (Elem ks)) : (bodyP E0 G92 L Tryd.f92 [.rsl ks xs, .fn 64 []] [] R) = (
    LOOP92 L R 2 { tm := [AV.rsl ks xs, AV.fn 64 [], vU, vU, vI 0, vJ, vJ, vI (↑xs.length : Int), vI 0, vJ, vJ, vJ, vJ, vJ, vJ, vJ, vJ, vJ, vJ], ob := [], nx := 1000000, ps := [] }) := by kernel_rfl
def st92 (xs : List (Elem ks)) (i : Int) : St :=  ⟨[AV.rsl ks xs, AV.fn 64 [], vU, vU, vI 0, vJ, vJ, vI (↑xs.length : Int), .val (.int .i64 i), vJ, vJ, vJ, vJ, vJ, vJ, vJ, vJ, vJ, vJ], [], 1000000, []⟩
theorem b92 (L : Lp) (R : Option Res → Prop) (N : St → Prop) (xs : List (Elem ks)) (i : Int) : (evP E92 G92 L (lp92 2) (st92 xs i) (rk92 L R 2 N)) = (
    br (decide (i < (↑xs.length : Int))) (br (decide (0 ≤ i ∧ i < (↑xs.length : Int))) (br (decide ((↑(ByteArray.size (xs.getD i.toNat (edflt ks)).fst) : Int) > 24)) (R (some { av := vI i, obs := [], outs := [] })) (N { tm := [AV.rsl ks xs, AV.fn 64 [], vU, vU, vI 0, vJ, vJ, vI (↑xs.length : Int), vI (IntKind.i64.wrap (i + 1)), vJ, vJ, vJ, vJ, vJ, vJ, vJ, vJ, vJ, vJ], ob := [], nx := 1000000, ps := [] })) False) (R (some { av := vI (-1), obs := [], outs := [] }))) := by kernel_rfl
theorem h92 : G1Ok Tryd.prog 92 g92 := by
  intro args obs k h
  unfold g92 at h
  split at h
  · rename_i k xs
    obtain ⟨hl, h⟩ := brd h
    refine ⟨_, ctr_fn ok0 hg92 Tryd.func92 (by kernel_rfl) (by kernel_rfl) (by kernel_rfl) fun C => ?_, h⟩
    rw [e92]
    refine loopFind okf92 hg92 (fun i => st92 xs i) xs.length (fun i => decide (((at1 xs i).size : Int) > 24)) (by omega) (fun N i hi hw next found none => ?_)
    show evP E92 G92 _ (lp92 2) (st92 xs i) (rk92 _ _ 2 _)
    rw [b92, hw, Int.toNat_natCast]
    refine br_dec (fun h2 => br_yes ⟨by omega, h2⟩ (br_dec (fun h3 => ?_) (fun h3 => ?_))) (fun h2 => ?_)
    · show _ = _
      rw [found (by omega) (decide_eq_true h3)]
    · exact next (by omega) (decide_eq_false h3)
    · show _ = _
      rw [none (by omega)]
  · exact h.elim
noncomputable def E63 : Env := E0.of Tryd.f63
noncomputable def G63 : Gk := gk [(92, g92)]
noncomputable def lp63 (n : Nat) : Code := (loopOf n (codeOf Tryd.f63)).getD .skip
noncomputable def ct63 (L : Lp) (R : Option Res → Prop) (n : Nat) : Kt := contOf E63 G63 L n (codeOf Tryd.f63) (endK E63 Tryd.f63.results.toList R)
noncomputable def rk63 (L : Lp) (R : Option Res → Prop) (n : Nat) (N : St → Prop) : Kt := rk (jof E63 (lp63 n)) N (ct63 L R n)
noncomputable def LOOP63 (L : Lp) (R : Option Res → Prop) (n : Nat) (st : St) : Prop := L (lp63 n) st (ct63 L R n)
theorem hg63 : HG Tryd.prog G63 := (hg_cons h92 hg_nil)
theorem okf63 : Ok Tryd.prog E63 := ok0.of Tryd.f63
theorem e63 (L : Lp) (R : Option Res → Prop) (xs : List (Elem ks)) : (bodyP E0 G63 L Tryd.f63 [.rsl ks xs, .fn 64 []] [] R) = (
    br (decide (xs.length ≤ 1048576)) (R (some { av := vB (decide ((fIx xs.length fun i => decide ((↑(at1 xs i).size : Int) > 24)) ≥ 0)), obs := [], outs := [] })) False) := by kernel_rfl
theorem h63 : G1Ok Tryd.prog 63 g63 := by
  intro args obs k h
  unfold g63 at h
  split at h
  · rename_i k xs
    obtain ⟨hl, h⟩ := br_and h
    refine ⟨_, ctr_fn ok0 hg63 Tryd.func63 (by kernel_rfl) (by kernel_rfl) (by kernel_rfl) fun C => ?_, h⟩
    rw [e63]
    refine br_t hl ?_
    show _ = _
    rw [fIx_ge]
  · exact h.elim
noncomputable def E69 : Env := E0.of Tryd.f69
noncomputable def G69 : Gk := gk []
noncomputable def lp69 (n : Nat) : Code := (loopOf n (codeOf Tryd.f69)).getD .skip
noncomputable def ct69 (L : Lp) (R : Option Res → Prop) (n : Nat) : Kt := contOf E69 G69 L n (codeOf Tryd.f69) (endK E69 Tryd.f69.results.toList R)
noncomputable def rk69 (L : Lp) (R : Option Res → Prop) (n : Nat) (N : St → Prop) : Kt := rk (jof E69 (lp69 n)) N (ct69 L R n)
noncomputable def LOOP69 (L : Lp) (R : Option Res → Prop) (n : Nat) (st : St) : Prop := L (lp69 n) st (ct69 L R n)
theorem hg69 : HG Tryd.prog G69 := hg_nil
theorem okf69 : Ok Tryd.prog E69 := ok0.of Tryd.f69
theorem e69 (L : Lp) (R : Option Res → Prop) (xs : List (Elem kb)) (t : ByteArray) : (bodyP E0 G69 L Tryd.f69 [.agg [.rsl kb xs], .val (.string t)] [] R) = (
    LOOP69 L R 2 { tm := [AV.agg [AV.rsl kb xs], vS t, AV.ptr 0 0, vU, vI 0, vB false, vI 0, vJ, vJ, vJ, vJ, vJ, vJ, vJ, vJ, vJ, vJ, vJ, vJ, vJ, vJ, vJ, vJ, vJ, vU, vU, vU, vU, vU, vU, vU, vU, vU, vU, vU, vU, vU, vU, vU, vU], ob := [(0, AO.box [AV.rsl kb xs])], nx := 1000000, ps := [] }) := by kernel_rfl
def st69 (xs : List (Elem kb)) (t : ByteArray) (i : Int) : St :=  ⟨[AV.agg [AV.rsl kb xs], vS t, AV.ptr 0 0, vU, vI 0, vB false, .val (.int .i64 i), vJ, vJ, vJ, vJ, vJ, vJ, vJ, vJ, vJ, vJ, vJ, vJ, vJ, vJ, vJ, vJ, vJ, vU, vU, vU, vU, vU, vU, vU, vU, vU, vU, vU, vU, vU, vU, vU, vU], [(0, AO.box [AV.rsl kb xs])], 1000000, []⟩
theorem b69 (L : Lp) (R : Option Res → Prop) (N : St → Prop) (xs : List (Elem kb)) (t : ByteArray) (i : Int) : (evP E69 G69 L (lp69 2) (st69 xs t i) (rk69 L R 2 N)) = (
    br (decide (i < (↑xs.length : Int))) (br (decide (0 ≤ i ∧ i < (↑xs.length : Int))) (br (strLt (xs.getD i.toNat (edflt kb)).fst t) (N { tm := [AV.agg [AV.rsl kb xs], vS t, AV.ptr 0 0, vU, vI 0, vB false, vI (IntKind.i64.wrap (i + 1)), vJ, vJ, vJ, vJ, vJ, vJ, vJ, vJ, vJ, vJ, vJ, vJ, vJ, vJ, vJ, vJ, vJ, vU, vU, vU, vU, vU, vU, vU, vU, vU, vU, vU, vU, vU, vU, vU, vU], ob := [(0, AO.box [AV.rsl kb xs])], nx := 1000000, ps := [] }) (br (decide (i < (↑xs.length : Int))) (br (decide (0 ≤ i ∧ i < (↑xs.length : Int))) (R (some { av := AV.tup [vI i, vB (strEq (xs.getD i.toNat (edflt kb)).fst t)], obs := [], outs := [] })) False) (R (some { av := AV.tup [vI i, vB false], obs := [], outs := [] })))) False) (br (decide (i < (↑xs.length : Int))) (br (decide (0 ≤ i ∧ i < (↑xs.length : Int))) (R (some { av := AV.tup [vI i, vB (strEq (xs.getD i.toNat (edflt kb)).fst t)], obs := [], outs := [] })) False) (R (some { av := AV.tup [vI i, vB false], obs := [], outs := [] })))) := by kernel_rfl
theorem h69 : G1Ok Tryd.prog 69 g69 := by
  intro args obs k h
  unfold g69 at h
  split at h
  · rename_i k xs t
    obtain ⟨hl, h⟩ := brd h
    refine ⟨_, ctr_fn ok0 hg69 Tryd.func69 (by kernel_rfl) (by kernel_rfl) (by kernel_rfl) fun C => ?_, h⟩
    rw [e69]
    refine loopLn okf69 hg69 (fun i => st69 xs t i) xs.length (fun i => strLt (atB xs i).1 t) (by omega) (fun N i hi hw next stop last => ?_)
    show evP E69 G69 _ (lp69 2) (st69 xs t i) (rk69 _ _ 2 _)
    rw [b69, hw, Int.toNat_natCast]
    refine br_dec (fun h2 => br_yes ⟨by omega, h2⟩ (br_intro (fun h3 => ?_) (fun h3 => br_yes h2 (br_yes ⟨by omega, h2⟩ ?_)))) (fun h2 => br_no h2 ?_)
    · exact next (by omega) h3
    · show _ = _
      have e : lnB xs t = i := stop (by omega) h3
      unfold okB
      rw [e, decide_eq_true (show i < xs.length by omega), Bool.true_and]
    · show _ = _
      have e : lnB xs t = i := last (by omega)
      unfold okB
      rw [e, decide_eq_false (show ¬ i < xs.length by omega), Bool.false_and]
  · exact h.elim
theorem h98 : G1Ok Tryd.prog 98 g98 := by
  intro args obs k h
  unfold g98 at h
  split at h
  · rename_i k a b
    exact ⟨_, ctr_plain (us := [.string a, .string b]) (v := .int .i64 (cmpS a b)) Tryd.func98 (by kernel_rfl) (by kernel_rfl) (fun w ht => (Tryd.strings_Compare a b w).mono fun e w' ⟨he, hw⟩ => ⟨he, .of_eq hw⟩), h⟩
  · exact h.elim
noncomputable def E97 : Env := E0.of Tryd.f97
noncomputable def G97 : Gk := gk [(98, g98)]
noncomputable def lp97 (n : Nat) : Code := (loopOf n (codeOf Tryd.f97)).getD .skip
noncomputable def ct97 (L : Lp) (R : Option Res → Prop) (n : Nat) : Kt := contOf E97 G97 L n (codeOf Tryd.f97) (endK E97 Tryd.f97.results.toList R)
noncomputable def rk97 (L : Lp) (R : Option Res → Prop) (n : Nat) (N : St → Prop) : Kt := rk (jof E97 (lp97 n)) N (ct97 L R n)
noncomputable def LOOP97 (L : Lp) (R : Option Res → Prop) (n : Nat) (st : St) : Prop := L (lp97 n) st (ct97 L R n)
theorem hg97 : HG Tryd.prog G97 := (hg_cons h98 hg_nil)
theorem okf97 : Ok Tryd.prog E97 := ok0.of Tryd.f97
theorem e97 (L : Lp) (R : Option Res → Prop) (e : Elem kb) (t : ByteArray) : (bodyP E0 G97 L Tryd.f97 [.agg (setC e), .val (.string t)] [] R) = (
    R (some { av := vI (cmpS e.fst t), obs := [], outs := [] })) := by kernel_rfl
theorem h97 : G1Ok Tryd.prog 97 g97 := by
  intro args obs k h
  unfold g97 at h
  split at h
  · rename_i k us t
    split at h
    rotate_left
    · exact h.elim
    rename_i a ha
    obtain rfl := elemOf_inv ha
    refine ⟨_, ctr_fn ok0 hg97 Tryd.func97 (by kernel_rfl) (by kernel_rfl) (by kernel_rfl) fun C => ?_, h⟩
    show bodyP E0 G97 _ Tryd.f97 [.agg (setC a), .val (.string t)] [] _
    rw [e97]
  · exact h.elim
noncomputable def E96 : Env := E0.of Tryd.f96
noncomputable def G96 : Gk := gk [(97, g97)]
noncomputable def lp96 (n : Nat) : Code := (loopOf n (codeOf Tryd.f96)).getD .skip
noncomputable def ct96 (L : Lp) (R : Option Res → Prop) (n : Nat) : Kt := contOf E96 G96 L n (codeOf Tryd.f96) (endK E96 Tryd.f96.results.toList R)
noncomputable def rk96 (L : Lp) (R : Option Res → Prop) (n : Nat) (N : St → Prop) : Kt := rk (jof E96 (lp96 n)) N (ct96 L R n)
noncomputable def LOOP96 (L : Lp) (R : Option Res → Prop) (n : Nat) (st : St) : Prop := L (lp96 n) st (ct96 L R n)
theorem hg96 : HG Tryd.prog G96 := (hg_cons h97 hg_nil)
theorem okf96 : Ok Tryd.prog E96 := ok0.of Tryd.f96
theorem e96 (L : Lp) (R : Option Res → Prop) (xs : List (Elem kb)) (t : ByteArray) : (bodyP E0 G96 L Tryd.f96 [.rsl kb xs, .val (.string t), .fn 97 []] [] R) = (
    LOOP96 L R 3 { tm := [AV.rsl kb xs, vS t, AV.fn 97 [], vU, vU, vU, vI 0, vB false, vI (↑xs.length : Int), vI 0, vI (↑xs.length : Int), vJ, vJ, vJ, vJ, vJ, vJ, vJ, vJ, vJ, vJ, vJ, vJ, vJ, vJ, vJ, vJ, vJ, vJ, vJ, vJ, vJ, vJ, vJ, vJ, vU, vU, vU, vU, vU, vU, vU, vU, vU, vU, vU, vU, vU, vU], ob := [], nx := 1000000, ps := [] }) := by kernel_rfl
def st96 (xs : List (Elem kb)) (t : ByteArray) (i j : Int) : St :=  ⟨[AV.rsl kb xs, vS t, AV.fn 97 [], vU, vU, vU, vI 0, vB false, vI (↑xs.length : Int), .val (.int .i64 i), .val (.int .i64 j), vJ, vJ, vJ, vJ, vJ, vJ, vJ, vJ, vJ, vJ, vJ, vJ, vJ, vJ, vJ, vJ, vJ, vJ, vJ, vJ, vJ, vJ, vJ, vJ, vU, vU, vU, vU, vU, vU, vU, vU, vU, vU, vU, vU, vU, vU], [], 1000000, []⟩
theorem b96 (L : Lp) (R : Option Res → Prop) (N : St → Prop) (xs : List (Elem kb)) (t : ByteArray) (i j : Int) : (evP E96 G96 L (lp96 3) (st96 xs t i j) (rk96 L R 3 N)) = (
    br (decide (i < j)) (br (decide (0 ≤ IntKind.i64.wrap ((IntKind.u64.wrap (IntKind.i64.wrap (i + j))).fdiv 2) ∧ IntKind.i64.wrap ((IntKind.u64.wrap (IntKind.i64.wrap (i + j))).fdiv 2) < (↑xs.length : Int))) (br (decide (cmpS (xs.getD (IntKind.i64.wrap ((IntKind.u64.wrap (IntKind.i64.wrap (i + j))).fdiv 2)).toNat (edflt kb)).fst t < 0)) (N { tm := [AV.rsl kb xs, vS t, AV.fn 97 [], vU, vU, vU, vI 0, vB false, vI (↑xs.length : Int), vI (IntKind.i64.wrap (IntKind.i64.wrap ((IntKind.u64.wrap (IntKind.i64.wrap (i + j))).fdiv 2) + 1)), vI j, vJ, vJ, vJ, vJ, vJ, vJ, vJ, vJ, vJ, vJ, vJ, vJ, vJ, vJ, vJ, vJ, vJ, vJ, vJ, vJ, vJ, vJ, vJ, vJ, vU, vU, vU, vU, vU, vU, vU, vU, vU, vU, vU, vU, vU, vU], ob := [], nx := 1000000, ps := [] }) (N { tm := [AV.rsl kb xs, vS t, AV.fn 97 [], vU, vU, vU, vI 0, vB false, vI (↑xs.length : Int), vI i, vI (IntKind.i64.wrap ((IntKind.u64.wrap (IntKind.i64.wrap (i + j))).fdiv 2)), vJ, vJ, vJ, vJ, vJ, vJ, vJ, vJ, vJ, vJ, vJ, vJ, vJ, vJ, vJ, vJ, vJ, vJ, vJ, vJ, vJ, vJ, vJ, vJ, vU, vU, vU, vU, vU, vU, vU, vU, vU, vU, vU, vU, vU, vU], ob := [], nx := 1000000, ps := [] })) False) (br (decide (i < (↑xs.length : Int))) (br (decide (0 ≤ i ∧ i < (↑xs.length : Int))) (R (some { av := AV.tup [vI i, vB (cmpS (xs.getD i.toNat (edflt kb)).fst t == 0)], obs := [], outs := [] })) False) (R (some { av := AV.tup [vI i, vB false], obs := [], outs := [] })))) := by kernel_rfl
theorem h96 : G1Ok Tryd.prog 96 g96 := by
  intro args obs k h
  unfold g96 at h
  split at h
  · rename_i k xs t
    obtain ⟨hl, h⟩ := brd h
    refine ⟨_, ctr_fn ok0 hg96 Tryd.func96 (by kernel_rfl) (by kernel_rfl) (by kernel_rfl) fun C => ?_, h⟩
    rw [e96]
    refine loopBs okf96 hg96 (fun i j => st96 xs t i j) xs.length (fun i => strLt (atB xs i).1 t) (by omega) (fun N i j hij hj hm hw yes no done => ?_) _ rfl
    show evP E96 G96 _ (lp96 3) (st96 xs t i j) (rk96 _ _ 3 _)
    rw [b96, hm]
    refine br_dec (fun h2 => ?_) (fun h2 => ?_)
    · rw [hw (by omega), Int.toNat_natCast, cmpS_lt]
      exact br_yes ⟨by omega, by omega⟩ (br_intro (fun h3 => yes (by omega) h3) (fun h3 => no (by omega) h3))
    · have e : bsB xs t = i := done (by omega)
      refine br_dec (fun h3 => br_yes ⟨by omega, h3⟩ ?_) (fun h3 => ?_)
      · show _ = _
        unfold bkB
        rw [e, decide_eq_true (show i < xs.length by omega), Bool.true_and, Int.toNat_natCast, cmpS_eq]
      · show _ = _
        unfold bkB
        rw [e, decide_eq_false (show ¬ i < xs.length by omega), Bool.false_and]
  · exact h.elim
noncomputable def E71 : Env := E0.of Tryd.f71
noncomputable def G71 : Gk := gk [(96, g96)]
noncomputable def lp71 (n : Nat) : Code := (loopOf n (codeOf Tryd.f71)).getD .skip
noncomputable def ct71 (L : Lp) (R : Option Res → Prop) (n : Nat) : Kt := contOf E71 G71 L n (codeOf Tryd.f71) (endK E71 Tryd.f71.results.toList R)
noncomputable def rk71 (L : Lp) (R : Option Res → Prop) (n : Nat) (N : St → Prop) : Kt := rk (jof E71 (lp71 n)) N (ct71 L R n)
noncomputable def LOOP71 (L : Lp) (R : Option Res → Prop) (n : Nat) (st : St) : Prop := L (lp71 n) st (ct71 L R n)
theorem hg71 : HG Tryd.prog G71 := (hg_cons h96 hg_nil)
theorem okf71 : Ok Tryd.prog E71 := ok0.of Tryd.f71
theorem e71 (L : Lp) (R : Option Res → Prop) (xs : List (Elem kb)) (t : ByteArray) : (bodyP E0 G71 L Tryd.f71 [.agg [.rsl kb xs], .val (.string t)] [] R) = (
    br (decide (xs.length ≤ 1048576)) (R (some { av := AV.tup [vI (↑(bsB xs t) : Int), vB (bkB xs t)], obs := [], outs := [] })) False) := by kernel_rfl
theorem h71 : G1Ok Tryd.prog 71 g71 := by
  intro args obs k h
  unfold g71 at h
  split at h
  · rename_i k xs t
    obtain ⟨hl, h⟩ := br_and h
    refine ⟨_, ctr_fn ok0 hg71 Tryd.func71 (by kernel_rfl) (by kernel_rfl) (by kernel_rfl) fun C => ?_, h⟩
    rw [e71]
    exact br_t hl rfl
  · exact h.elim
noncomputable def E94 : Env := E0.of Tryd.f94
noncomputable def G94 : Gk := gk []
noncomputable def lp94 (n : Nat) : Code := (loopOf n (codeOf Tryd.f94)).getD .skip
noncomputable def ct94 (L : Lp) (R : Option Res → Prop) (n : Nat) : Kt := contOf E94 G94 L n (codeOf Tryd.f94) (endK E94 Tryd.f94.results.toList R)
noncomputable def rk94 (L : Lp) (R : Option Res → Prop) (n : Nat) (N : St → Prop) : Kt := rk (jof E94 (lp94 n)) N (ct94 L R n)
noncomputable def LOOP94 (L : Lp) (R : Option Res → Prop) (n : Nat) (st : St) : Prop := L (lp94 n) st (ct94 L R n)
theorem hg94 : HG Tryd.prog G94 := hg_nil
theorem okf94 : Ok Tryd.prog E94 := ok0.of Tryd.f94
theorem e94 (L : Lp) (R : Option Res → Prop) (e : Elem kb) (s : Elem kb) : (bodyP E0 G94 L Tryd.f94 [.agg (setC e), .rpt (setC s)] [] R) = (
    R (some { av := vB (strEq e.fst s.snd.snd.fst), obs := [], outs := [] })) := by kernel_rfl
theorem h94 : G1Ok Tryd.prog 94 g94 := by
  intro args obs k h
  unfold g94 at h
  split at h
  · rename_i k us vs
    split at h
    rotate_left
    · exact h.elim
    rename_i a s ha hs
    obtain rfl := elemOf_inv ha
    obtain rfl := elemOf_inv hs
    refine ⟨_, ctr_fn ok0 hg94 Tryd.func94 (by kernel_rfl) (by kernel_rfl) (by kernel_rfl) fun C => ?_, h⟩
    show bodyP E0 G94 _ Tryd.f94 [.agg (setC a), .rpt (setC s)] [] _
    rw [e94]
  · exact h.elim
noncomputable def E93 : Env := E0.of Tryd.f93
noncomputable def G93 : Gk := gk [(94, g94)]
noncomputable def lp93 (n : Nat) : Code := (loopOf n (codeOf Tryd.f93)).getD .skip
noncomputable def ct93 (L : Lp) (R : Option Res → Prop) (n : Nat) : Kt := contOf E93 G93 L n (codeOf Tryd.f93) (endK E93 Tryd.f93.results.toList R)
noncomputable def rk93 (L : Lp) (R : Option Res → Prop) (n : Nat) (N : St → Prop) : Kt := rk (jof E93 (lp93 n)) N (ct93 L R n)
noncomputable def LOOP93 (L : Lp) (R : Option Res → Prop) (n : Nat) (st : St) : Prop := L (lp93 n) st (ct93 L R n)
theorem hg93 : HG Tryd.prog G93 := (hg_cons h94 hg_nil)
theorem okf93 : Ok Tryd.prog E93 := ok0.of Tryd.f93
theorem e93 (L : Lp) (R : Option Res → Prop) (xs : List (Elem kb)) (s : Elem kb) : (bodyP E0 G93 L Tryd.f93 [.rsl kb xs, .fn 94 [.rpt (setC s)]] [] R) = (
    LOOP93 L R 2 { tm := [AV.rsl kb xs, AV.fn 94 [AV.rpt [vS s.fst, vI s.snd.fst, vS s.snd.snd.fst, vS s.snd.snd.snd.fst, vS s.snd.snd.snd.snd.fst, vS s.snd.snd.snd.snd.snd.fst, vS s.snd.snd.snd.snd.snd.snd.fst, vS s.snd.snd.snd.snd.snd.snd.snd.fst, vS s.snd.snd.snd.snd.snd.snd.snd.snd.fst, vS s.snd.snd.snd.snd.snd.snd.snd.snd.snd.fst, vS s.snd.snd.snd.snd.snd.snd.snd.snd.snd.snd.fst]], vU, vU, vI 0, vJ, vJ, vI (↑xs.length : Int), vI 0, vJ, vJ, vJ, vJ, vJ, vJ, vJ, vJ, vJ, vJ], ob := [], nx := 1000000, ps := [] }) := by kernel_rfl
def st93 (xs : List (Elem kb)) (s : Elem kb) (i : Int) : St :=  ⟨[AV.rsl kb xs, AV.fn 94 [AV.rpt [vS s.fst, vI s.snd.fst, vS s.snd.snd.fst, vS s.snd.snd.snd.fst, vS s.snd.snd.snd.snd.fst, vS s.snd.snd.snd.snd.snd.fst, vS s.snd.snd.snd.snd.snd.snd.fst, vS s.snd.snd.snd.snd.snd.snd.snd.fst, vS s.snd.snd.snd.snd.snd.snd.snd.snd.fst, vS s.snd.snd.snd.snd.snd.snd.snd.snd.snd.fst, vS s.snd.snd.snd.snd.snd.snd.snd.snd.snd.snd.fst]], vU, vU, vI 0, vJ, vJ, vI (↑xs.length : Int), .val (.int .i64 i), vJ, vJ, vJ, vJ, vJ, vJ, vJ, vJ, vJ, vJ], [], 1000000, []⟩
theorem b93 (L : Lp) (R : Option Res → Prop) (N : St → Prop) (xs : List (Elem kb)) (s : Elem kb) (i : Int) : (evP E93 G93 L (lp93 2) (st93 xs s i) (rk93 L R 2 N)) = (
    br (decide (i < (↑xs.length : Int))) (br (decide (0 ≤ i ∧ i < (↑xs.length : Int))) (br (strEq (xs.getD i.toNat (edflt kb)).fst s.snd.snd.fst) (R (some { av := vI i, obs := [], outs := [] })) (N { tm := [AV.rsl kb xs, AV.fn 94 [AV.rpt [vS s.fst, vI s.snd.fst, vS s.snd.snd.fst, vS s.snd.snd.snd.fst, vS s.snd.snd.snd.snd.fst, vS s.snd.snd.snd.snd.snd.fst, vS s.snd.snd.snd.snd.snd.snd.fst, vS s.snd.snd.snd.snd.snd.snd.snd.fst, vS s.snd.snd.snd.snd.snd.snd.snd.snd.fst, vS s.snd.snd.snd.snd.snd.snd.snd.snd.snd.fst, vS s.snd.snd.snd.snd.snd.snd.snd.snd.snd.snd.fst]], vU, vU, vI 0, vJ, vJ, vI (↑xs.length : Int), vI (IntKind.i64.wrap (i + 1)), vJ, vJ, vJ, vJ, vJ, vJ, vJ, vJ, vJ, vJ], ob := [], nx := 1000000, ps := [] })) False) (R (some { av := vI (-1), obs := [], outs := [] }))) := by kernel_rfl
theorem h93 : G1Ok Tryd.prog 93 g93 := by
  intro args obs k h
  unfold g93 at h
  split at h
  · rename_i k xs vs
    split at h
    rotate_left
    · exact h.elim
    rename_i s hs
    obtain rfl := elemOf_inv hs
    obtain ⟨hl, h⟩ := brd h
    refine ⟨_, ctr_fn ok0 hg93 Tryd.func93 (by kernel_rfl) (by kernel_rfl) (by kernel_rfl) fun C => ?_, h⟩
    show bodyP E0 G93 _ Tryd.f93 [.rsl kb xs, .fn 94 [.rpt (setC s)]] [] _
    rw [e93]
    refine loopFd okf93 hg93 (fun i => st93 xs s i) xs.length (fun i => strEq (atB xs i).1 s.2.2.1) (by omega) (fun N i hi hw next found none => ?_)
    show evP E93 G93 _ (lp93 2) (st93 xs s i) (rk93 _ _ 2 _)
    rw [b93, hw, Int.toNat_natCast]
    refine br_dec (fun h2 => br_yes ⟨by omega, h2⟩ (br_intro (fun h3 => ?_) (fun h3 => ?_))) (fun h2 => ?_)
    · show _ = _
      rw [show fdB xs s.2.2.1 = some i from found (by omega) h3]
      rfl
    · exact next (by omega) h3
    · show _ = _
      rw [show fdB xs s.2.2.1 = Option.none from none (by omega)]
      rfl
  · exact h.elim
def bks (e : Elem kb) : List (Elem ks) := [(e.2.2.2.1, ()), (e.2.2.2.2.1, ()), (e.2.2.2.2.2.1, ()), (e.2.2.2.2.2.2.1, ()), (e.2.2.2.2.2.2.2.1, ()), (e.2.2.2.2.2.2.2.2.1, ()), (e.2.2.2.2.2.2.2.2.2.1, ()), (e.2.2.2.2.2.2.2.2.2.2.1, ())]
def nme (b : Bool) (t : Bool) : Bool := b && t
def ldB (xs : List (Elem kb)) : Nat → Elem kb → Bool
  | 0, _ => false
  | m + 1, s => match strEq s.2.2.1 ⟨#[]⟩ with
    | true => s.2.1 == 1
    | false => match fdB xs s.2.2.1 with
      | none => false
      | some k => match (atB xs k).2.1 == s.2.1 with
        | true => false
        | false => ldB xs m (atB xs k)
def rtB (xs : List (Elem kb)) : Nat → Elem kb → Bool
  | 0, _ => false
  | m + 1, s => match strEq s.2.2.1 ⟨#[]⟩ with
    | true => s.2.1 == 1
    | false => match okB xs s.2.2.1 with
      | false => false
      | true => match (atB xs (lnB xs s.2.2.1)).2.1 == s.2.1 with
        | true => false
        | false => rtB xs m (atB xs (lnB xs s.2.2.1))
def g67 : G1
  | [.agg [.rsl [.str, .int .i64, .str, .str, .str, .str, .str, .str, .str, .str, .str] xs], .agg us], [], k => match elemOf kb us with
    | some s => br (decide (xs.length ≤ 1048576)) (k ⟨.val (.bool (ldB xs xs.length s)), [], []⟩) False
    | none => False
  | _, _, _ => False
def g61 : G1
  | [.agg [.rsl [.str, .int .i64, .str, .str, .str, .str, .str, .str, .str, .str, .str] xs], .agg us], [], k => match elemOf kb us with
    | some s => br (decide (xs.length ≤ 1048576)) (k ⟨.val (.bool (rtB xs (xs.length + 1) s)), [], []⟩) False
    | none => False
  | _, _, _ => False
noncomputable def E67 : Env := E0.of Tryd.f67
noncomputable def G67 : Gk := gk [(93, g93)]
noncomputable def lp67 (n : Nat) : Code := (loopOf n (codeOf Tryd.f67)).getD .skip
noncomputable def ct67 (L : Lp) (R : Option Res → Prop) (n : Nat) : Kt := contOf E67 G67 L n (codeOf Tryd.f67) (endK E67 Tryd.f67.results.toList R)
noncomputable def rk67 (L : Lp) (R : Option Res → Prop) (n : Nat) (N : St → Prop) : Kt := rk (jof E67 (lp67 n)) N (ct67 L R n)
noncomputable def LOOP67 (L : Lp) (R : Option Res → Prop) (n : Nat) (st : St) : Prop := L (lp67 n) st (ct67 L R n)
theorem hg67 : HG Tryd.prog G67 := (hg_cons h93 hg_nil)
theorem okf67 : Ok Tryd.prog E67 := ok0.of Tryd.f67
theorem e67 (L : Lp) (R : Option Res → Prop) (xs : List (Elem kb)) (s : Elem kb) : (bodyP E0 G67 L Tryd.f67 [.agg [.rsl kb xs], .agg (setC s)] [] R) = (
    LOOP67 L R 2 { tm := [AV.agg [AV.rsl kb xs], AV.agg [vS s.fst, vI s.snd.fst, vS s.snd.snd.fst, vS s.snd.snd.snd.fst, vS s.snd.snd.snd.snd.fst, vS s.snd.snd.snd.snd.snd.fst, vS s.snd.snd.snd.snd.snd.snd.fst, vS s.snd.snd.snd.snd.snd.snd.snd.fst, vS s.snd.snd.snd.snd.snd.snd.snd.snd.fst, vS s.snd.snd.snd.snd.snd.snd.snd.snd.snd.fst, vS s.snd.snd.snd.snd.snd.snd.snd.snd.snd.snd.fst], AV.ptr 0 0, AV.ptr 1 0, vB false, vJ, vJ, vJ, vI (↑xs.length : Int), vI 0, vJ, vJ, vJ, vJ, vJ, vJ, vJ, vJ, vJ, vJ, vJ, vJ, vJ, vJ, vJ, vJ, vJ, vJ, vJ, vJ, vJ, vJ, vJ, vJ, vJ, vJ, vJ, vJ, vJ, vJ], ob := [(0, AO.box [AV.rsl kb xs]), (1, AO.box [vS s.fst, vI s.snd.fst, vS s.snd.snd.fst, vS s.snd.snd.snd.fst, vS s.snd.snd.snd.snd.fst, vS s.snd.snd.snd.snd.snd.fst, vS s.snd.snd.snd.snd.snd.snd.fst, vS s.snd.snd.snd.snd.snd.snd.snd.fst, vS s.snd.snd.snd.snd.snd.snd.snd.snd.fst, vS s.snd.snd.snd.snd.snd.snd.snd.snd.snd.fst, vS s.snd.snd.snd.snd.snd.snd.snd.snd.snd.snd.fst])], nx := 1000000, ps := [] }) := by kernel_rfl
def st67 (xs : List (Elem kb)) (s u : Elem kb) (i : Int) : St :=  ⟨[AV.agg [AV.rsl kb xs], AV.agg [vS s.fst, vI s.snd.fst, vS s.snd.snd.fst, vS s.snd.snd.snd.fst, vS s.snd.snd.snd.snd.fst, vS s.snd.snd.snd.snd.snd.fst, vS s.snd.snd.snd.snd.snd.snd.fst, vS s.snd.snd.snd.snd.snd.snd.snd.fst, vS s.snd.snd.snd.snd.snd.snd.snd.snd.fst, vS s.snd.snd.snd.snd.snd.snd.snd.snd.snd.fst, vS s.snd.snd.snd.snd.snd.snd.snd.snd.snd.snd.fst], AV.ptr 0 0, AV.ptr 1 0, vB false, vJ, vJ, vJ, vI (↑xs.length : Int), .val (.int .i64 i), vJ, vJ, vJ, vJ, vJ, vJ, vJ, vJ, vJ, vJ, vJ, vJ, vJ, vJ, vJ, vJ, vJ, vJ, vJ, vJ, vJ, vJ, vJ, vJ, vJ, vJ, vJ, vJ, vJ, vJ], [(0, AO.box [AV.rsl kb xs]), (1, .box (setC u))], 1000000, []⟩
theorem b67 (L : Lp) (R : Option Res → Prop) (N : St → Prop) (xs : List (Elem kb)) (s u : Elem kb) (i : Int) : (evP E67 G67 L (lp67 2) (st67 xs s u i) (rk67 L R 2 N)) = (
    br (decide (i < (↑xs.length : Int))) (br (strEq u.snd.snd.fst { data := #[] }) (R (some { av := vB (u.snd.fst == 1), obs := [], outs := [] })) (br (decide (xs.length ≤ 1048576)) (br (decide (ixO (fdB xs u.snd.snd.fst) < 0)) (R (some { av := vB false, obs := [], outs := [] })) (br (decide (0 ≤ ixO (fdB xs u.snd.snd.fst) ∧ ixO (fdB xs u.snd.snd.fst) < (↑xs.length : Int))) (br ((xs.getD (ixO (fdB xs u.snd.snd.fst)).toNat (edflt kb)).snd.fst == u.snd.fst) (R (some { av := vB false, obs := [], outs := [] })) (br (decide (0 ≤ ixO (fdB xs u.snd.snd.fst) ∧ ixO (fdB xs u.snd.snd.fst) < (↑xs.length : Int))) (N { tm := [AV.agg [AV.rsl kb xs], AV.agg [vS s.fst, vI s.snd.fst, vS s.snd.snd.fst, vS s.snd.snd.snd.fst, vS s.snd.snd.snd.snd.fst, vS s.snd.snd.snd.snd.snd.fst, vS s.snd.snd.snd.snd.snd.snd.fst, vS s.snd.snd.snd.snd.snd.snd.snd.fst, vS s.snd.snd.snd.snd.snd.snd.snd.snd.fst, vS s.snd.snd.snd.snd.snd.snd.snd.snd.snd.fst, vS s.snd.snd.snd.snd.snd.snd.snd.snd.snd.snd.fst], AV.ptr 0 0, AV.ptr 1 0, vB false, vJ, vJ, vJ, vI (↑xs.length : Int), vI (IntKind.i64.wrap (i + 1)), vJ, vJ, vJ, vJ, vJ, vJ, vJ, vJ, vJ, vJ, vJ, vJ, vJ, vJ, vJ, vJ, vJ, vJ, vJ, vJ, vJ, vJ, vJ, vJ, vJ, vJ, vJ, vJ, vJ, vJ], ob := [(0, AO.box [AV.rsl kb xs]), (1, AO.box [vS (xs.getD (ixO (fdB xs u.snd.snd.fst)).toNat (edflt kb)).fst, vI (xs.getD (ixO (fdB xs u.snd.snd.fst)).toNat (edflt kb)).snd.fst, vS (xs.getD (ixO (fdB xs u.snd.snd.fst)).toNat (edflt kb)).snd.snd.fst, vS (xs.getD (ixO (fdB xs u.snd.snd.fst)).toNat (edflt kb)).snd.snd.snd.fst, vS (xs.getD (ixO (fdB xs u.snd.snd.fst)).toNat (edflt kb)).snd.snd.snd.snd.fst, vS (xs.getD (ixO (fdB xs u.snd.snd.fst)).toNat (edflt kb)).snd.snd.snd.snd.snd.fst, vS (xs.getD (ixO (fdB xs u.snd.snd.fst)).toNat (edflt kb)).snd.snd.snd.snd.snd.snd.fst, vS (xs.getD (ixO (fdB xs u.snd.snd.fst)).toNat (edflt kb)).snd.snd.snd.snd.snd.snd.snd.fst, vS (xs.getD (ixO (fdB xs u.snd.snd.fst)).toNat (edflt kb)).snd.snd.snd.snd.snd.snd.snd.snd.fst, vS (xs.getD (ixO (fdB xs u.snd.snd.fst)).toNat (edflt kb)).snd.snd.snd.snd.snd.snd.snd.snd.snd.fst, vS (xs.getD (ixO (fdB xs u.snd.snd.fst)).toNat (edflt kb)).snd.snd.snd.snd.snd.snd.snd.snd.snd.snd.fst])], nx := 1000000, ps := [] }) False)) False)) False)) (R (some { av := vB false, obs := [], outs := [] }))) := by kernel_rfl
theorem ldB_root {xs : List (Elem kb)} {m : Nat} {u : Elem kb} (h : strEq u.2.2.1 ⟨#[]⟩ = true) : ldB xs (m + 1) u = (u.2.1 == 1) := by unfold ldB; rw [h]
theorem ldB_none {xs : List (Elem kb)} {m : Nat} {u : Elem kb} (h : strEq u.2.2.1 ⟨#[]⟩ = false) (h2 : fdB xs u.2.2.1 = none) : ldB xs (m + 1) u = false := by unfold ldB; rw [h, h2]
theorem ldB_some {xs : List (Elem kb)} {m : Nat} {u : Elem kb} {k : Nat} (h : strEq u.2.2.1 ⟨#[]⟩ = false) (h2 : fdB xs u.2.2.1 = some k) : ldB xs (m + 1) u = match (atB xs k).2.1 == u.2.1 with | true => false | false => ldB xs m (atB xs k) := by
  conv => lhs; unfold ldB
  rw [h, h2]
theorem rtB_root {xs : List (Elem kb)} {m : Nat} {u : Elem kb} (h : strEq u.2.2.1 ⟨#[]⟩ = true) : rtB xs (m + 1) u = (u.2.1 == 1) := by unfold rtB; rw [h]
theorem rtB_none {xs : List (Elem kb)} {m : Nat} {u : Elem kb} (h : strEq u.2.2.1 ⟨#[]⟩ = false) (h2 : okB xs u.2.2.1 = false) : rtB xs (m + 1) u = false := by unfold rtB; rw [h, h2]
theorem rtB_some {xs : List (Elem kb)} {m : Nat} {u : Elem kb} (h : strEq u.2.2.1 ⟨#[]⟩ = false) (h2 : okB xs u.2.2.1 = true) : rtB xs (m + 1) u = match (atB xs (lnB xs u.2.2.1)).2.1 == u.2.1 with | true => false | false => rtB xs m (atB xs (lnB xs u.2.2.1)) := by
  conv => lhs; unfold rtB
  rw [h, h2]
theorem fdB_lt {xs : List (Elem kb)} {t : ByteArray} {k : Nat} (h : fdB xs t = some k) : k < xs.length := by
  unfold fdB fd at h
  have := List.mem_of_find?_eq_some h
  simpa using this
theorem h67 : G1Ok Tryd.prog 67 g67 := by
  intro args obs k h
  unfold g67 at h
  split at h
  · rename_i k xs us
    split at h
    rotate_left
    · exact h.elim
    rename_i s hs
    obtain rfl := elemOf_inv hs
    obtain ⟨hl, h⟩ := br_and h
    have hl' := of_decide_eq_true hl
    refine ⟨_, ctr_fn ok0 hg67 Tryd.func67 (by kernel_rfl) (by kernel_rfl) (by kernel_rfl) fun C => ?_, h⟩
    show bodyP E0 G67 _ Tryd.f67 [.agg [.rsl kb xs], .agg (setC s)] [] _
    rw [e67]
    refine loopUp okf67 hg67 (fun i u => st67 xs s u i) xs.length (fun i u => ldB xs (xs.length - i) u = ldB xs xs.length s) (fun N i u hi hu next => ?_) s rfl
    show evP E67 G67 _ (lp67 2) (st67 xs s u i) (rk67 _ _ 2 _)
    rw [b67, wrap_id (n := (i : Int) + 1) (by omega) (by omega)]
    refine br_dec (fun h2 => ?_) (fun h2 => ?_)
    · have e : xs.length - i = (xs.length - (i + 1)) + 1 := by omega
      rw [e] at hu
      refine br_intro (fun h3 => ?_) (fun h3 => br_t hl ?_)
      · rw [ldB_root h3] at hu
        show _ = _
        rw [← hu]
      cases hf : fdB xs u.2.2.1 with
      | none =>
        rw [ldB_none h3 hf] at hu
        refine br_yes (by decide) ?_
        show _ = _
        rw [← hu]
      | some k =>
        rw [ldB_some h3 hf] at hu
        have hk := fdB_lt hf
        have e1 : ixO (some k) = (k : Int) := rfl
        rw [e1, Int.toNat_natCast]
        refine br_no (by omega) (br_yes ⟨by omega, by omega⟩ (br_intro (fun h4 => ?_) (fun h4 => br_yes ⟨by omega, by omega⟩ ?_)))
        · have h4' : ((atB xs k).2.1 == u.2.1) = true := h4
          rw [h4'] at hu
          show _ = _
          rw [← hu]
        · have h4' : ((atB xs k).2.1 == u.2.1) = false := h4
          rw [h4'] at hu
          exact next (by omega) (atB xs k) hu
    · have e : xs.length - i = 0 := by omega
      rw [e] at hu
      show _ = _
      rw [← hu]
      rfl
  · exact h.elim
noncomputable def E61 : Env := E0.of Tryd.f61
noncomputable def G61 : Gk := gk [(69, g69)]
noncomputable def lp61 (n : Nat) : Code := (loopOf n (codeOf Tryd.f61)).getD .skip
noncomputable def ct61 (L : Lp) (R : Option Res → Prop) (n : Nat) : Kt := contOf E61 G61 L n (codeOf Tryd.f61) (endK E61 Tryd.f61.results.toList R)
noncomputable def rk61 (L : Lp) (R : Option Res → Prop) (n : Nat) (N : St → Prop) : Kt := rk (jof E61 (lp61 n)) N (ct61 L R n)
noncomputable def LOOP61 (L : Lp) (R : Option Res → Prop) (n : Nat) (st : St) : Prop := L (lp61 n) st (ct61 L R n)
theorem hg61 : HG Tryd.prog G61 := (hg_cons h69 hg_nil)
theorem okf61 : Ok Tryd.prog E61 := ok0.of Tryd.f61
theorem e61 (L : Lp) (R : Option Res → Prop) (xs : List (Elem kb)) (s : Elem kb) : (bodyP E0 G61 L Tryd.f61 [.agg [.rsl kb xs], .agg (setC s)] [] R) = (
    LOOP61 L R 2 { tm := [AV.agg [AV.rsl kb xs], AV.agg [vS s.fst, vI s.snd.fst, vS s.snd.snd.fst, vS s.snd.snd.snd.fst, vS s.snd.snd.snd.snd.fst, vS s.snd.snd.snd.snd.snd.fst, vS s.snd.snd.snd.snd.snd.snd.fst, vS s.snd.snd.snd.snd.snd.snd.snd.fst, vS s.snd.snd.snd.snd.snd.snd.snd.snd.fst, vS s.snd.snd.snd.snd.snd.snd.snd.snd.snd.fst, vS s.snd.snd.snd.snd.snd.snd.snd.snd.snd.snd.fst], AV.ptr 0 0, AV.ptr 1 0, vB false, vI 0, vJ, vJ, vJ, vJ, vJ, vJ, vJ, vJ, vJ, vJ, vJ, vJ, vJ, vJ, vJ, vJ, vJ, vJ, vJ, vJ, vJ, vJ, vJ, vJ, vJ, vJ, vJ, vJ, vJ, vJ, vJ, vJ, vJ, vJ, vJ, vJ, vJ, vJ, vJ, vJ], ob := [(0, AO.box [AV.rsl kb xs]), (1, AO.box [vS s.fst, vI s.snd.fst, vS s.snd.snd.fst, vS s.snd.snd.snd.fst, vS s.snd.snd.snd.snd.fst, vS s.snd.snd.snd.snd.snd.fst, vS s.snd.snd.snd.snd.snd.snd.fst, vS s.snd.snd.snd.snd.snd.snd.snd.fst, vS s.snd.snd.snd.snd.snd.snd.snd.snd.fst, vS s.snd.snd.snd.snd.snd.snd.snd.snd.snd.fst, vS s.snd.snd.snd.snd.snd.snd.snd.snd.snd.snd.fst])], nx := 1000000, ps := [] }) := by kernel_rfl
def st61 (xs : List (Elem kb)) (s u : Elem kb) (i : Int) : St :=  ⟨[AV.agg [AV.rsl kb xs], AV.agg [vS s.fst, vI s.snd.fst, vS s.snd.snd.fst, vS s.snd.snd.snd.fst, vS s.snd.snd.snd.snd.fst, vS s.snd.snd.snd.snd.snd.fst, vS s.snd.snd.snd.snd.snd.snd.fst, vS s.snd.snd.snd.snd.snd.snd.snd.fst, vS s.snd.snd.snd.snd.snd.snd.snd.snd.fst, vS s.snd.snd.snd.snd.snd.snd.snd.snd.snd.fst, vS s.snd.snd.snd.snd.snd.snd.snd.snd.snd.snd.fst], AV.ptr 0 0, AV.ptr 1 0, vB false, .val (.int .i64 i), vJ, vJ, vJ, vJ, vJ, vJ, vJ, vJ, vJ, vJ, vJ, vJ, vJ, vJ, vJ, vJ, vJ, vJ, vJ, vJ, vJ, vJ, vJ, vJ, vJ, vJ, vJ, vJ, vJ, vJ, vJ, vJ, vJ, vJ, vJ, vJ, vJ, vJ, vJ, vJ], [(0, AO.box [AV.rsl kb xs]), (1, .box (setC u))], 1000000, []⟩
theorem b61 (L : Lp) (R : Option Res → Prop) (N : St → Prop) (xs : List (Elem kb)) (s u : Elem kb) (i : Int) : (evP E61 G61 L (lp61 2) (st61 xs s u i) (rk61 L R 2 N)) = (
    br (decide (i ≤ (↑xs.length : Int))) (br (strEq u.snd.snd.fst { data := #[] }) (R (some { av := vB (u.snd.fst == 1), obs := [], outs := [] })) (br (decide (xs.length ≤ 1048576)) (br (!okB xs u.snd.snd.fst) (R (some { av := vB false, obs := [], outs := [] })) (br (decide (0 ≤ (↑(lnB xs u.snd.snd.fst) : Int) ∧ (↑(lnB xs u.snd.snd.fst) : Int) < (↑xs.length : Int))) (br ((xs.getD (↑(lnB xs u.snd.snd.fst) : Int).toNat (edflt kb)).snd.fst == u.snd.fst) (R (some { av := vB false, obs := [], outs := [] })) (br (decide (0 ≤ (↑(lnB xs u.snd.snd.fst) : Int) ∧ (↑(lnB xs u.snd.snd.fst) : Int) < (↑xs.length : Int))) (N { tm := [AV.agg [AV.rsl kb xs], AV.agg [vS s.fst, vI s.snd.fst, vS s.snd.snd.fst, vS s.snd.snd.snd.fst, vS s.snd.snd.snd.snd.fst, vS s.snd.snd.snd.snd.snd.fst, vS s.snd.snd.snd.snd.snd.snd.fst, vS s.snd.snd.snd.snd.snd.snd.snd.fst, vS s.snd.snd.snd.snd.snd.snd.snd.snd.fst, vS s.snd.snd.snd.snd.snd.snd.snd.snd.snd.fst, vS s.snd.snd.snd.snd.snd.snd.snd.snd.snd.snd.fst], AV.ptr 0 0, AV.ptr 1 0, vB false, vI (IntKind.i64.wrap (i + 1)), vJ, vJ, vJ, vJ, vJ, vJ, vJ, vJ, vJ, vJ, vJ, vJ, vJ, vJ, vJ, vJ, vJ, vJ, vJ, vJ, vJ, vJ, vJ, vJ, vJ, vJ, vJ, vJ, vJ, vJ, vJ, vJ, vJ, vJ, vJ, vJ, vJ, vJ, vJ, vJ], ob := [(0, AO.box [AV.rsl kb xs]), (1, AO.box [vS (xs.getD (↑(lnB xs u.snd.snd.fst) : Int).toNat (edflt kb)).fst, vI (xs.getD (↑(lnB xs u.snd.snd.fst) : Int).toNat (edflt kb)).snd.fst, vS (xs.getD (↑(lnB xs u.snd.snd.fst) : Int).toNat (edflt kb)).snd.snd.fst, vS (xs.getD (↑(lnB xs u.snd.snd.fst) : Int).toNat (edflt kb)).snd.snd.snd.fst, vS (xs.getD (↑(lnB xs u.snd.snd.fst) : Int).toNat (edflt kb)).snd.snd.snd.snd.fst, vS (xs.getD (↑(lnB xs u.snd.snd.fst) : Int).toNat (edflt kb)).snd.snd.snd.snd.snd.fst, vS (xs.getD (↑(lnB xs u.snd.snd.fst) : Int).toNat (edflt kb)).snd.snd.snd.snd.snd.snd.fst, vS (xs.getD (↑(lnB xs u.snd.snd.fst) : Int).toNat (edflt kb)).snd.snd.snd.snd.snd.snd.snd.fst, vS (xs.getD (↑(lnB xs u.snd.snd.fst) : Int).toNat (edflt kb)).snd.snd.snd.snd.snd.snd.snd.snd.fst, vS (xs.getD (↑(lnB xs u.snd.snd.fst) : Int).toNat (edflt kb)).snd.snd.snd.snd.snd.snd.snd.snd.snd.fst, vS (xs.getD (↑(lnB xs u.snd.snd.fst) : Int).toNat (edflt kb)).snd.snd.snd.snd.snd.snd.snd.snd.snd.snd.fst])], nx := 1000000, ps := [] }) False)) False)) False)) (R (some { av := vB false, obs := [], outs := [] }))) := by kernel_rfl
theorem h61 : G1Ok Tryd.prog 61 g61 := by
  intro args obs k h
  unfold g61 at h
  split at h
  · rename_i k xs us
    split at h
    rotate_left
    · exact h.elim
    rename_i s hs
    obtain rfl := elemOf_inv hs
    obtain ⟨hl, h⟩ := br_and h
    have hl' := of_decide_eq_true hl
    refine ⟨_, ctr_fn ok0 hg61 Tryd.func61 (by kernel_rfl) (by kernel_rfl) (by kernel_rfl) fun C => ?_, h⟩
    show bodyP E0 G61 _ Tryd.f61 [.agg [.rsl kb xs], .agg (setC s)] [] _
    rw [e61]
    refine loopUp okf61 hg61 (fun i u => st61 xs s u i) (xs.length + 1) (fun i u => rtB xs (xs.length + 1 - i) u = rtB xs (xs.length + 1) s) (fun N i u hi hu next => ?_) s rfl
    show evP E61 G61 _ (lp61 2) (st61 xs s u i) (rk61 _ _ 2 _)
    rw [b61, wrap_id (n := (i : Int) + 1) (by omega) (by omega)]
    refine br_dec (fun h2 => ?_) (fun h2 => ?_)
    · have e : xs.length + 1 - i = (xs.length - i) + 1 := by omega
      rw [e] at hu
      refine br_intro (fun h3 => ?_) (fun h3 => br_t hl ?_)
      · rw [rtB_root h3] at hu
        show _ = _
        rw [← hu]
      refine br_not (fun h4 => ?_) (fun h4 => ?_)
      · rw [rtB_none h3 h4] at hu
        show _ = _
        rw [← hu]
      · rw [rtB_some h3 h4] at hu
        have hk : lnB xs u.2.2.1 < xs.length := by
          unfold okB at h4
          simp only [Bool.and_eq_true, decide_eq_true_eq] at h4
          exact h4.1
        rw [Int.toNat_natCast]
        refine br_yes ⟨by omega, by omega⟩ (br_intro (fun h4 => ?_) (fun h4 => br_yes ⟨by omega, by omega⟩ ?_))
        · have h4' : ((atB xs (lnB xs u.2.2.1)).2.1 == u.2.1) = true := h4
          rw [h4'] at hu
          show _ = _
          rw [← hu]
        · have h4' : ((atB xs (lnB xs u.2.2.1)).2.1 == u.2.1) = false := h4
          rw [h4'] at hu
          have e2 : xs.length + 1 - (i + 1) = xs.length - i := by omega
          exact next (by omega) (atB xs (lnB xs u.2.2.1)) (by rw [e2]; exact hu)
    · have e : xs.length + 1 - i = 0 := by omega
      rw [e] at hu
      show _ = _
      rw [← hu]
      rfl
  · exact h.elim
end Go.Proofs.YtljilcingbohkaaDoor.Ev
