/- Books that are valid: contracts. -/
import Derived.Test.YtljilcingbohkabDoorD13
namespace Go.Proofs.YtljilcingbohkabDoor.Ev
open Go
set_option linter.unusedVariables false
set_option linter.unusedSimpArgs false
set_option maxRecDepth 100000
def g125 : G1
  | [.val (.string t)], [], k => k ⟨.val (.bool (decide ((t.size : Int) > 24))), [], []⟩
  | _, _, _ => False
def g154 : G1
  | [.rsl [.str] xs, .fn 125 []], [], k => br (decide (xs.length ≤ 1048576)) (k ⟨.val (.int .i64 (fIx xs.length fun i => decide (((at1 xs i).size : Int) > 24))), [], []⟩) False
  | _, _, _ => False
def g124 : G1
  | [.rsl [.str] xs, .fn 125 []], [], k => br (decide (xs.length ≤ 1048576)) (k ⟨.val (.bool (anyB xs.length fun i => decide (((at1 xs i).size : Int) > 24))), [], []⟩) False
  | _, _, _ => False
def setC (e : Elem kb) : List AV := [.val (.string e.1), .val (.int .i64 e.2.1), .val (.string e.2.2.1), .val (.string e.2.2.2.1), .val (.string e.2.2.2.2.1), .val (.string e.2.2.2.2.2.1), .val (.string e.2.2.2.2.2.2.1), .val (.string e.2.2.2.2.2.2.2.1), .val (.string e.2.2.2.2.2.2.2.2.1), .val (.string e.2.2.2.2.2.2.2.2.2.1), .val (.string e.2.2.2.2.2.2.2.2.2.2.1)]
abbrev atB (xs : List (Elem kb)) (i : Nat) : Elem kb := xs.getD i (edflt kb)
def lnB (xs : List (Elem kb)) (t : ByteArray) : Nat := ln (fun i => strLt (atB xs i).1 t) xs.length
def okB (xs : List (Elem kb)) (t : ByteArray) : Bool := decide (lnB xs t < xs.length) && strEq (atB xs (lnB xs t)).1 t
def g151 : G1
  | [.agg [.rsl [.str, .int .i64, .str, .str, .str, .str, .str, .str, .str, .str, .str] xs], .val (.string t)], [], k => br (decide (xs.length ≤ 1048576)) (k ⟨.tup [.val (.int .i64 (lnB xs t)), .val (.bool (okB xs t))], [], []⟩) False
  | _, _, _ => False
def bsB (xs : List (Elem kb)) (t : ByteArray) : Nat := bsf (fun i => strLt (atB xs i).1 t) 0 xs.length
def bkB (xs : List (Elem kb)) (t : ByteArray) : Bool := decide (bsB xs t < xs.length) && strEq (atB xs (bsB xs t)).1 t
def g156 : G1
  | [.agg us, .rpt vs], [], k => match elemOf kb us, elemOf kb vs with
    | some a, some s => k ⟨.val (.bool (strEq a.1 s.2.2.1)), [], []⟩
    | _, _ => False
  | _, _, _ => False
def fdB (xs : List (Elem kb)) (t : ByteArray) : Option Nat := fd xs.length fun i => strEq (atB xs i).1 t
def ixO : Option Nat → Int
  | some k => k
  | none => -1
def g155 : G1
  | [.rsl [.str, .int .i64, .str, .str, .str, .str, .str, .str, .str, .str, .str] xs, .fn 156 [.rpt vs]], [], k => match elemOf kb vs with
    | some s => br (decide (xs.length ≤ 1048576)) (k ⟨.val (.int .i64 (ixO (fdB xs s.2.2.1))), [], []⟩) False
    | none => False
  | _, _, _ => False
noncomputable def E125 : Env := E0.of Tryd.f125
noncomputable def G125 : Gk := gk []
noncomputable def lp125 (n : Nat) : Code := (loopOf n (codeOf Tryd.f125)).getD .skip
noncomputable def ct125 (L : Lp) (R : Option Res → Prop) (n : Nat) : Kt := contOf E125 G125 L n (codeOf Tryd.f125) (endK E125 Tryd.f125.results.toList R)
noncomputable def rk125 (L : Lp) (R : Option Res → Prop) (n : Nat) (N : St → Prop) : Kt := rk (jof E125 (lp125 n)) N (ct125 L R n)
noncomputable def rkn125 (L : Lp) (R : Option Res → Prop) (n : Nat) (N : St → Prop) (m : Nat) (N2 : St → Prop) : Kt := rk (jof E125 (lp125 m)) N2 (contOf E125 G125 L m (lp125 n) (rk125 L R n N))
noncomputable def LOOPN125 (L : Lp) (R : Option Res → Prop) (n : Nat) (N : St → Prop) (m : Nat) (st : St) : Prop := L (lp125 m) st (contOf E125 G125 L m (lp125 n) (rk125 L R n N))
noncomputable def LOOP125 (L : Lp) (R : Option Res → Prop) (n : Nat) (st : St) : Prop := L (lp125 n) st (ct125 L R n)
theorem hg125 : HG Tryd.prog G125 := hg_nil
theorem okf125 : Ok Tryd.prog E125 := ok0.of Tryd.f125
theorem e125 (L : Lp) (R : Option Res → Prop) (t : ByteArray) : (bodyP E0 G125 L Tryd.f125 [.val (.string t)] [] R) = (
    R (some { av := vB (decide ((↑t.size : Int) > 24)), obs := [], outs := [] })) := by kernel_rfl
theorem h125 : G1Ok Tryd.prog 125 g125 := by
  intro args obs k h
  unfold g125 at h
  split at h
  · rename_i k t
    refine ⟨_, ctr_fn ok0 hg125 Tryd.func125 (by kernel_rfl) (by kernel_rfl) (by kernel_rfl) fun C => ?_, h⟩
    rw [e125]
  · exact h.elim
noncomputable def E154 : Env := E0.of Tryd.f154
noncomputable def G154 : Gk := gk [(125, g125)]
noncomputable def lp154 (n : Nat) : Code := (loopOf n (codeOf Tryd.f154)).getD .skip
noncomputable def ct154 (L : Lp) (R : Option Res → Prop) (n : Nat) : Kt := contOf E154 G154 L n (codeOf Tryd.f154) (endK E154 Tryd.f154.results.toList R)
noncomputable def rk154 (L : Lp) (R : Option Res → Prop) (n : Nat) (N : St → Prop) : Kt := rk (jof E154 (lp154 n)) N (ct154 L R n)
noncomputable def rkn154 (L : Lp) (R : Option Res → Prop) (n : Nat) (N : St → Prop) (m : Nat) (N2 : St → Prop) : Kt := rk (jof E154 (lp154 m)) N2 (contOf E154 G154 L m (lp154 n) (rk154 L R n N))
noncomputable def LOOPN154 (L : Lp) (R : Option Res → Prop) (n : Nat) (N : St → Prop) (m : Nat) (st : St) : Prop := L (lp154 m) st (contOf E154 G154 L m (lp154 n) (rk154 L R n N))
noncomputable def LOOP154 (L : Lp) (R : Option Res → Prop) (n : Nat) (st : St) : Prop := L (lp154 n) st (ct154 L R n)
theorem hg154 : HG Tryd.prog G154 := (hg_cons h125 hg_nil)
theorem okf154 : Ok Tryd.prog E154 := ok0.of Tryd.f154
theorem e154 (L : Lp) (R : Option Res → Prop) (xs : List (Elem ks)) : (bodyP E0 G154 L Tryd.f154 [.rsl ks xs, .fn 125 []] [] R) = (
    LOOP154 L R 2 { tm := [AV.rsl ks xs, AV.fn 125 [], vU, vU, vI 0, vJ, vJ, vI (↑xs.length : Int), vI 0, vJ, vJ, vJ, vJ, vJ, vJ, vJ, vJ, vJ, vJ], ob := [], nx := 1000000, ps := [] }) := by kernel_rfl
def st154 (xs : List (Elem ks)) (i : Int) : St :=  ⟨[AV.rsl ks xs, AV.fn 125 [], vU, vU, vI 0, vJ, vJ, vI (↑xs.length : Int), .val (.int .i64 i), vJ, vJ, vJ, vJ, vJ, vJ, vJ, vJ, vJ, vJ], [], 1000000, []⟩
theorem b154 (L : Lp) (R : Option Res → Prop) (N : St → Prop) (xs : List (Elem ks)) (i : Int) : (evP E154 G154 L (lp154 2) (st154 xs i) (rk154 L R 2 N)) = (
    br (decide (i < (↑xs.length : Int))) (br (decide (0 ≤ i ∧ i < (↑xs.length : Int))) (br (decide ((↑(ByteArray.size (xs.getD i.toNat (edflt ks)).fst) : Int) > 24)) (R (some { av := vI i, obs := [], outs := [] })) (N { tm := [AV.rsl ks xs, AV.fn 125 [], vU, vU, vI 0, vJ, vJ, vI (↑xs.length : Int), vI (IntKind.i64.wrap (i + 1)), vJ, vJ, vJ, vJ, vJ, vJ, vJ, vJ, vJ, vJ], ob := [], nx := 1000000, ps := [] })) False) (R (some { av := vI (-1), obs := [], outs := [] }))) := by kernel_rfl
theorem h154 : G1Ok Tryd.prog 154 g154 := by
  intro args obs k h
  unfold g154 at h
  split at h
  · rename_i k xs
    obtain ⟨hl, h⟩ := brd h
    refine ⟨_, ctr_fn ok0 hg154 Tryd.func154 (by kernel_rfl) (by kernel_rfl) (by kernel_rfl) fun C => ?_, h⟩
    rw [e154]
    refine loopFind okf154 hg154 (fun i => st154 xs i) xs.length (fun i => decide (((at1 xs i).size : Int) > 24)) (by omega) (fun N i hi hw next found none => ?_)
    show evP E154 G154 _ (lp154 2) (st154 xs i) (rk154 _ _ 2 _)
    rw [b154, hw, Int.toNat_natCast]
    refine br_dec (fun h2 => br_yes ⟨by omega, h2⟩ (br_dec (fun h3 => ?_) (fun h3 => ?_))) (fun h2 => ?_)
    · show _ = _
      rw [found (by omega) (decide_eq_true h3)]
    · exact next (by omega) (decide_eq_false h3)
    · show _ = _
      rw [none (by omega)]
  · exact h.elim
noncomputable def E124 : Env := E0.of Tryd.f124
noncomputable def G124 : Gk := gk [(154, g154)]
noncomputable def lp124 (n : Nat) : Code := (loopOf n (codeOf Tryd.f124)).getD .skip
noncomputable def ct124 (L : Lp) (R : Option Res → Prop) (n : Nat) : Kt := contOf E124 G124 L n (codeOf Tryd.f124) (endK E124 Tryd.f124.results.toList R)
noncomputable def rk124 (L : Lp) (R : Option Res → Prop) (n : Nat) (N : St → Prop) : Kt := rk (jof E124 (lp124 n)) N (ct124 L R n)
noncomputable def rkn124 (L : Lp) (R : Option Res → Prop) (n : Nat) (N : St → Prop) (m : Nat) (N2 : St → Prop) : Kt := rk (jof E124 (lp124 m)) N2 (contOf E124 G124 L m (lp124 n) (rk124 L R n N))
noncomputable def LOOPN124 (L : Lp) (R : Option Res → Prop) (n : Nat) (N : St → Prop) (m : Nat) (st : St) : Prop := L (lp124 m) st (contOf E124 G124 L m (lp124 n) (rk124 L R n N))
noncomputable def LOOP124 (L : Lp) (R : Option Res → Prop) (n : Nat) (st : St) : Prop := L (lp124 n) st (ct124 L R n)
theorem hg124 : HG Tryd.prog G124 := (hg_cons h154 hg_nil)
theorem okf124 : Ok Tryd.prog E124 := ok0.of Tryd.f124
theorem e124 (L : Lp) (R : Option Res → Prop) (xs : List (Elem ks)) : (bodyP E0 G124 L Tryd.f124 [.rsl ks xs, .fn 125 []] [] R) = (
    br (decide (xs.length ≤ 1048576)) (R (some { av := vB (decide ((fIx xs.length fun i => decide ((↑(at1 xs i).size : Int) > 24)) ≥ 0)), obs := [], outs := [] })) False) := by kernel_rfl
theorem h124 : G1Ok Tryd.prog 124 g124 := by
  intro args obs k h
  unfold g124 at h
  split at h
  · rename_i k xs
    obtain ⟨hl, h⟩ := br_and h
    refine ⟨_, ctr_fn ok0 hg124 Tryd.func124 (by kernel_rfl) (by kernel_rfl) (by kernel_rfl) fun C => ?_, h⟩
    rw [e124]
    refine br_t hl ?_
    show _ = _
    rw [fIx_ge]
  · exact h.elim
noncomputable def E151 : Env := E0.of Tryd.f151
noncomputable def G151 : Gk := gk []
noncomputable def lp151 (n : Nat) : Code := (loopOf n (codeOf Tryd.f151)).getD .skip
noncomputable def ct151 (L : Lp) (R : Option Res → Prop) (n : Nat) : Kt := contOf E151 G151 L n (codeOf Tryd.f151) (endK E151 Tryd.f151.results.toList R)
noncomputable def rk151 (L : Lp) (R : Option Res → Prop) (n : Nat) (N : St → Prop) : Kt := rk (jof E151 (lp151 n)) N (ct151 L R n)
noncomputable def rkn151 (L : Lp) (R : Option Res → Prop) (n : Nat) (N : St → Prop) (m : Nat) (N2 : St → Prop) : Kt := rk (jof E151 (lp151 m)) N2 (contOf E151 G151 L m (lp151 n) (rk151 L R n N))
noncomputable def LOOPN151 (L : Lp) (R : Option Res → Prop) (n : Nat) (N : St → Prop) (m : Nat) (st : St) : Prop := L (lp151 m) st (contOf E151 G151 L m (lp151 n) (rk151 L R n N))
noncomputable def LOOP151 (L : Lp) (R : Option Res → Prop) (n : Nat) (st : St) : Prop := L (lp151 n) st (ct151 L R n)
theorem hg151 : HG Tryd.prog G151 := hg_nil
theorem okf151 : Ok Tryd.prog E151 := ok0.of Tryd.f151
theorem e151 (L : Lp) (R : Option Res → Prop) (xs : List (Elem kb)) (t : ByteArray) : (bodyP E0 G151 L Tryd.f151 [.agg [.rsl kb xs], .val (.string t)] [] R) = (
    LOOP151 L R 2 { tm := [AV.agg [AV.rsl kb xs], vS t, AV.ptr 0 0, vU, vI 0, vB false, vI 0, vJ, vJ, vJ, vJ, vJ, vJ, vJ, vJ, vJ, vJ, vJ, vJ, vJ, vJ, vJ, vJ, vJ, vU, vU, vU, vU, vU, vU, vU, vU, vU, vU, vU, vU, vU, vU, vU, vU], ob := [(0, AO.box [AV.rsl kb xs])], nx := 1000000, ps := [] }) := by kernel_rfl
def st151 (xs : List (Elem kb)) (t : ByteArray) (i : Int) : St :=  ⟨[AV.agg [AV.rsl kb xs], vS t, AV.ptr 0 0, vU, vI 0, vB false, .val (.int .i64 i), vJ, vJ, vJ, vJ, vJ, vJ, vJ, vJ, vJ, vJ, vJ, vJ, vJ, vJ, vJ, vJ, vJ, vU, vU, vU, vU, vU, vU, vU, vU, vU, vU, vU, vU, vU, vU, vU, vU], [(0, AO.box [AV.rsl kb xs])], 1000000, []⟩
theorem b151 (L : Lp) (R : Option Res → Prop) (N : St → Prop) (xs : List (Elem kb)) (t : ByteArray) (i : Int) : (evP E151 G151 L (lp151 2) (st151 xs t i) (rk151 L R 2 N)) = (
    br (decide (i < (↑xs.length : Int))) (br (decide (0 ≤ i ∧ i < (↑xs.length : Int))) (br (strLt (xs.getD i.toNat (edflt kb)).fst t) (N { tm := [AV.agg [AV.rsl kb xs], vS t, AV.ptr 0 0, vU, vI 0, vB false, vI (IntKind.i64.wrap (i + 1)), vJ, vJ, vJ, vJ, vJ, vJ, vJ, vJ, vJ, vJ, vJ, vJ, vJ, vJ, vJ, vJ, vJ, vU, vU, vU, vU, vU, vU, vU, vU, vU, vU, vU, vU, vU, vU, vU, vU], ob := [(0, AO.box [AV.rsl kb xs])], nx := 1000000, ps := [] }) (br (decide (i < (↑xs.length : Int))) (br (decide (0 ≤ i ∧ i < (↑xs.length : Int))) (R (some { av := AV.tup [vI i, vB (strEq (xs.getD i.toNat (edflt kb)).fst t)], obs := [], outs := [] })) False) (R (some { av := AV.tup [vI i, vB false], obs := [], outs := [] })))) False) (br (decide (i < (↑xs.length : Int))) (br (decide (0 ≤ i ∧ i < (↑xs.length : Int))) (R (some { av := AV.tup [vI i, vB (strEq (xs.getD i.toNat (edflt kb)).fst t)], obs := [], outs := [] })) False) (R (some { av := AV.tup [vI i, vB false], obs := [], outs := [] })))) := by kernel_rfl
theorem h151 : G1Ok Tryd.prog 151 g151 := by
  intro args obs k h
  unfold g151 at h
  split at h
  · rename_i k xs t
    obtain ⟨hl, h⟩ := brd h
    refine ⟨_, ctr_fn ok0 hg151 Tryd.func151 (by kernel_rfl) (by kernel_rfl) (by kernel_rfl) fun C => ?_, h⟩
    rw [e151]
    refine loopLn okf151 hg151 (fun i => st151 xs t i) xs.length (fun i => strLt (atB xs i).1 t) (by omega) (fun N i hi hw next stop last => ?_)
    show evP E151 G151 _ (lp151 2) (st151 xs t i) (rk151 _ _ 2 _)
    rw [b151, hw, Int.toNat_natCast]
    refine br_dec (fun h2 => br_yes ⟨by omega, h2⟩ (br_intro (fun h3 => ?_) (fun h3 => br_yes h2 (br_yes ⟨by omega, h2⟩ ?_)))) (fun h2 => br_no h2 ?_)
    · exact next (by omega) h3
    · show _ = _
      have e : lnB xs t = i := stop (by omega) h3
      unfold okB
      rw [e, decide_eq_true (show i < xs.length by omega), Bool.true_and]
    · show _ = _
      have e : lnB xs t = i := last (by omega)
      unfold okB
      rw [e, decide_eq_false (show ¬ i < xs.length by omega), Bool.false_and]
  · exact h.elim
noncomputable def E156 : Env := E0.of Tryd.f156
noncomputable def G156 : Gk := gk []
noncomputable def lp156 (n : Nat) : Code := (loopOf n (codeOf Tryd.f156)).getD .skip
noncomputable def ct156 (L : Lp) (R : Option Res → Prop) (n : Nat) : Kt := contOf E156 G156 L n (codeOf Tryd.f156) (endK E156 Tryd.f156.results.toList R)
noncomputable def rk156 (L : Lp) (R : Option Res → Prop) (n : Nat) (N : St → Prop) : Kt := rk (jof E156 (lp156 n)) N (ct156 L R n)
noncomputable def rkn156 (L : Lp) (R : Option Res → Prop) (n : Nat) (N : St → Prop) (m : Nat) (N2 : St → Prop) : Kt := rk (jof E156 (lp156 m)) N2 (contOf E156 G156 L m (lp156 n) (rk156 L R n N))
noncomputable def LOOPN156 (L : Lp) (R : Option Res → Prop) (n : Nat) (N : St → Prop) (m : Nat) (st : St) : Prop := L (lp156 m) st (contOf E156 G156 L m (lp156 n) (rk156 L R n N))
noncomputable def LOOP156 (L : Lp) (R : Option Res → Prop) (n : Nat) (st : St) : Prop := L (lp156 n) st (ct156 L R n)
theorem hg156 : HG Tryd.prog G156 := hg_nil
theorem okf156 : Ok Tryd.prog E156 := ok0.of Tryd.f156
theorem e156 (L : Lp) (R : Option Res → Prop) (e : Elem kb) (s : Elem kb) : (bodyP E0 G156 L Tryd.f156 [.agg (setC e), .rpt (setC s)] [] R) = (
    R (some { av := vB (strEq e.fst s.snd.snd.fst), obs := [], outs := [] })) := by kernel_rfl
theorem h156 : G1Ok Tryd.prog 156 g156 := by
  intro args obs k h
  unfold g156 at h
  split at h
  · rename_i k us vs
    split at h
    rotate_left
    · exact h.elim
    rename_i a s ha hs
    obtain rfl := elemOf_inv ha
    obtain rfl := elemOf_inv hs
    refine ⟨_, ctr_fn ok0 hg156 Tryd.func156 (by kernel_rfl) (by kernel_rfl) (by kernel_rfl) fun C => ?_, h⟩
    show bodyP E0 G156 _ Tryd.f156 [.agg (setC a), .rpt (setC s)] [] _
    rw [e156]
  · exact h.elim
noncomputable def E155 : Env := E0.of Tryd.f155
noncomputable def G155 : Gk := gk [(156, g156)]
noncomputable def lp155 (n : Nat) : Code := (loopOf n (codeOf Tryd.f155)).getD .skip
noncomputable def ct155 (L : Lp) (R : Option Res → Prop) (n : Nat) : Kt := contOf E155 G155 L n (codeOf Tryd.f155) (endK E155 Tryd.f155.results.toList R)
noncomputable def rk155 (L : Lp) (R : Option Res → Prop) (n : Nat) (N : St → Prop) : Kt := rk (jof E155 (lp155 n)) N (ct155 L R n)
noncomputable def rkn155 (L : Lp) (R : Option Res → Prop) (n : Nat) (N : St → Prop) (m : Nat) (N2 : St → Prop) : Kt := rk (jof E155 (lp155 m)) N2 (contOf E155 G155 L m (lp155 n) (rk155 L R n N))
noncomputable def LOOPN155 (L : Lp) (R : Option Res → Prop) (n : Nat) (N : St → Prop) (m : Nat) (st : St) : Prop := L (lp155 m) st (contOf E155 G155 L m (lp155 n) (rk155 L R n N))
noncomputable def LOOP155 (L : Lp) (R : Option Res → Prop) (n : Nat) (st : St) : Prop := L (lp155 n) st (ct155 L R n)
theorem hg155 : HG Tryd.prog G155 := (hg_cons h156 hg_nil)
theorem okf155 : Ok Tryd.prog E155 := ok0.of Tryd.f155
theorem e155 (L : Lp) (R : Option Res → Prop) (xs : List (Elem kb)) (s : Elem kb) : (bodyP E0 G155 L Tryd.f155 [.rsl kb xs, .fn 156 [.rpt (setC s)]] [] R) = (
    LOOP155 L R 2 { tm := [AV.rsl kb xs, AV.fn 156 [AV.rpt [vS s.fst, vI s.snd.fst, vS s.snd.snd.fst, vS s.snd.snd.snd.fst, vS s.snd.snd.snd.snd.fst, vS s.snd.snd.snd.snd.snd.fst, vS s.snd.snd.snd.snd.snd.snd.fst, vS s.snd.snd.snd.snd.snd.snd.snd.fst, vS s.snd.snd.snd.snd.snd.snd.snd.snd.fst, vS s.snd.snd.snd.snd.snd.snd.snd.snd.snd.fst, vS s.snd.snd.snd.snd.snd.snd.snd.snd.snd.snd.fst]], vU, vU, vI 0, vJ, vJ, vI (↑xs.length : Int), vI 0, vJ, vJ, vJ, vJ, vJ, vJ, vJ, vJ, vJ, vJ], ob := [], nx := 1000000, ps := [] }) := by kernel_rfl
def st155 (xs : List (Elem kb)) (s : Elem kb) (i : Int) : St :=  ⟨[AV.rsl kb xs, AV.fn 156 [AV.rpt [vS s.fst, vI s.snd.fst, vS s.snd.snd.fst, vS s.snd.snd.snd.fst, vS s.snd.snd.snd.snd.fst, vS s.snd.snd.snd.snd.snd.fst, vS s.snd.snd.snd.snd.snd.snd.fst, vS s.snd.snd.snd.snd.snd.snd.snd.fst, vS s.snd.snd.snd.snd.snd.snd.snd.snd.fst, vS s.snd.snd.snd.snd.snd.snd.snd.snd.snd.fst, vS s.snd.snd.snd.snd.snd.snd.snd.snd.snd.snd.fst]], vU, vU, vI 0, vJ, vJ, vI (↑xs.length : Int), .val (.int .i64 i), vJ, vJ, vJ, vJ, vJ, vJ, vJ, vJ, vJ, vJ], [], 1000000, []⟩
theorem b155 (L : Lp) (R : Option Res → Prop) (N : St → Prop) (xs : List (Elem kb)) (s : Elem kb) (i : Int) : (evP E155 G155 L (lp155 2) (st155 xs s i) (rk155 L R 2 N)) = (
    br (decide (i < (↑xs.length : Int))) (br (decide (0 ≤ i ∧ i < (↑xs.length : Int))) (br (strEq (xs.getD i.toNat (edflt kb)).fst s.snd.snd.fst) (R (some { av := vI i, obs := [], outs := [] })) (N { tm := [AV.rsl kb xs, AV.fn 156 [AV.rpt [vS s.fst, vI s.snd.fst, vS s.snd.snd.fst, vS s.snd.snd.snd.fst, vS s.snd.snd.snd.snd.fst, vS s.snd.snd.snd.snd.snd.fst, vS s.snd.snd.snd.snd.snd.snd.fst, vS s.snd.snd.snd.snd.snd.snd.snd.fst, vS s.snd.snd.snd.snd.snd.snd.snd.snd.fst, vS s.snd.snd.snd.snd.snd.snd.snd.snd.snd.fst, vS s.snd.snd.snd.snd.snd.snd.snd.snd.snd.snd.fst]], vU, vU, vI 0, vJ, vJ, vI (↑xs.length : Int), vI (IntKind.i64.wrap (i + 1)), vJ, vJ, vJ, vJ, vJ, vJ, vJ, vJ, vJ, vJ], ob := [], nx := 1000000, ps := [] })) False) (R (some { av := vI (-1), obs := [], outs := [] }))) := by kernel_rfl
theorem h155 : G1Ok Tryd.prog 155 g155 := by
  intro args obs k h
  unfold g155 at h
  split at h
  · rename_i k xs vs
    split at h
    rotate_left
    · exact h.elim
    rename_i s hs
    obtain rfl := elemOf_inv hs
    obtain ⟨hl, h⟩ := brd h
    refine ⟨_, ctr_fn ok0 hg155 Tryd.func155 (by kernel_rfl) (by kernel_rfl) (by kernel_rfl) fun C => ?_, h⟩
    show bodyP E0 G155 _ Tryd.f155 [.rsl kb xs, .fn 156 [.rpt (setC s)]] [] _
    rw [e155]
    refine loopFd okf155 hg155 (fun i => st155 xs s i) xs.length (fun i => strEq (atB xs i).1 s.2.2.1) (by omega) (fun N i hi hw next found none => ?_)
    show evP E155 G155 _ (lp155 2) (st155 xs s i) (rk155 _ _ 2 _)
    rw [b155, hw, Int.toNat_natCast]
    refine br_dec (fun h2 => br_yes ⟨by omega, h2⟩ (br_intro (fun h3 => ?_) (fun h3 => ?_))) (fun h2 => ?_)
    · show _ = _
      rw [show fdB xs s.2.2.1 = some i from found (by omega) h3]
      rfl
    · exact next (by omega) h3
    · show _ = _
      rw [show fdB xs s.2.2.1 = Option.none from none (by omega)]
      rfl
  · exact h.elim
def bks (e : Elem kb) : List (Elem ks) := [(e.2.2.2.1, ()), (e.2.2.2.2.1, ()), (e.2.2.2.2.2.1, ()), (e.2.2.2.2.2.2.1, ()), (e.2.2.2.2.2.2.2.1, ()), (e.2.2.2.2.2.2.2.2.1, ()), (e.2.2.2.2.2.2.2.2.2.1, ()), (e.2.2.2.2.2.2.2.2.2.2.1, ())]
def nme (b : Bool) (t : Bool) : Bool := b && t
def ldB (xs : List (Elem kb)) : Nat → Elem kb → Bool
  | 0, _ => false
  | m + 1, s => match strEq s.2.2.1 ⟨#[]⟩ with
    | true => s.2.1 == 1
    | false => match fdB xs s.2.2.1 with
      | none => false
      | some k => match (atB xs k).2.1 == s.2.1 with
        | true => false
        | false => ldB xs m (atB xs k)
def rtB (xs : List (Elem kb)) : Nat → Elem kb → Bool
  | 0, _ => false
  | m + 1, s => match strEq s.2.2.1 ⟨#[]⟩ with
    | true => s.2.1 == 1
    | false => match okB xs s.2.2.1 with
      | false => false
      | true => match (atB xs (lnB xs s.2.2.1)).2.1 == s.2.1 with
        | true => false
        | false => rtB xs m (atB xs (lnB xs s.2.2.1))
def g128 : G1
  | [.agg [.rsl [.str, .int .i64, .str, .str, .str, .str, .str, .str, .str, .str, .str] xs], .agg us], [], k => match elemOf kb us with
    | some s => br (decide (xs.length ≤ 1048576)) (k ⟨.val (.bool (ldB xs xs.length s)), [], []⟩) False
    | none => False
  | _, _, _ => False
def g112 : G1
  | [.agg [.rsl [.str, .int .i64, .str, .str, .str, .str, .str, .str, .str, .str, .str] xs], .agg us], [], k => match elemOf kb us with
    | some s => br (decide (xs.length ≤ 1048576)) (k ⟨.val (.bool (rtB xs (xs.length + 1) s)), [], []⟩) False
    | none => False
  | _, _, _ => False
noncomputable def E128 : Env := E0.of Tryd.f128
noncomputable def G128 : Gk := gk [(155, g155)]
noncomputable def lp128 (n : Nat) : Code := (loopOf n (codeOf Tryd.f128)).getD .skip
noncomputable def ct128 (L : Lp) (R : Option Res → Prop) (n : Nat) : Kt := contOf E128 G128 L n (codeOf Tryd.f128) (endK E128 Tryd.f128.results.toList R)
noncomputable def rk128 (L : Lp) (R : Option Res → Prop) (n : Nat) (N : St → Prop) : Kt := rk (jof E128 (lp128 n)) N (ct128 L R n)
noncomputable def rkn128 (L : Lp) (R : Option Res → Prop) (n : Nat) (N : St → Prop) (m : Nat) (N2 : St → Prop) : Kt := rk (jof E128 (lp128 m)) N2 (contOf E128 G128 L m (lp128 n) (rk128 L R n N))
noncomputable def LOOPN128 (L : Lp) (R : Option Res → Prop) (n : Nat) (N : St → Prop) (m : Nat) (st : St) : Prop := L (lp128 m) st (contOf E128 G128 L m (lp128 n) (rk128 L R n N))
noncomputable def LOOP128 (L : Lp) (R : Option Res → Prop) (n : Nat) (st : St) : Prop := L (lp128 n) st (ct128 L R n)
theorem hg128 : HG Tryd.prog G128 := (hg_cons h155 hg_nil)
theorem okf128 : Ok Tryd.prog E128 := ok0.of Tryd.f128
theorem e128 (L : Lp) (R : Option Res → Prop) (xs : List (Elem kb)) (s : Elem kb) : (bodyP E0 G128 L Tryd.f128 [.agg [.rsl kb xs], .agg (setC s)] [] R) = (
    LOOP128 L R 2 { tm := [AV.agg [AV.rsl kb xs], AV.agg [vS s.fst, vI s.snd.fst, vS s.snd.snd.fst, vS s.snd.snd.snd.fst, vS s.snd.snd.snd.snd.fst, vS s.snd.snd.snd.snd.snd.fst, vS s.snd.snd.snd.snd.snd.snd.fst, vS s.snd.snd.snd.snd.snd.snd.snd.fst, vS s.snd.snd.snd.snd.snd.snd.snd.snd.fst, vS s.snd.snd.snd.snd.snd.snd.snd.snd.snd.fst, vS s.snd.snd.snd.snd.snd.snd.snd.snd.snd.snd.fst], AV.ptr 0 0, AV.ptr 1 0, vB false, vJ, vJ, vJ, vI (↑xs.length : Int), vI 0, vJ, vJ, vJ, vJ, vJ, vJ, vJ, vJ, vJ, vJ, vJ, vJ, vJ, vJ, vJ, vJ, vJ, vJ, vJ, vJ, vJ, vJ, vJ, vJ, vJ, vJ, vJ, vJ, vJ, vJ], ob := [(0, AO.box [AV.rsl kb xs]), (1, AO.box [vS s.fst, vI s.snd.fst, vS s.snd.snd.fst, vS s.snd.snd.snd.fst, vS s.snd.snd.snd.snd.fst, vS s.snd.snd.snd.snd.snd.fst, vS s.snd.snd.snd.snd.snd.snd.fst, vS s.snd.snd.snd.snd.snd.snd.snd.fst, vS s.snd.snd.snd.snd.snd.snd.snd.snd.fst, vS s.snd.snd.snd.snd.snd.snd.snd.snd.snd.fst, vS s.snd.snd.snd.snd.snd.snd.snd.snd.snd.snd.fst])], nx := 1000000, ps := [] }) := by kernel_rfl
def st128 (xs : List (Elem kb)) (s u : Elem kb) (i : Int) : St :=  ⟨[AV.agg [AV.rsl kb xs], AV.agg [vS s.fst, vI s.snd.fst, vS s.snd.snd.fst, vS s.snd.snd.snd.fst, vS s.snd.snd.snd.snd.fst, vS s.snd.snd.snd.snd.snd.fst, vS s.snd.snd.snd.snd.snd.snd.fst, vS s.snd.snd.snd.snd.snd.snd.snd.fst, vS s.snd.snd.snd.snd.snd.snd.snd.snd.fst, vS s.snd.snd.snd.snd.snd.snd.snd.snd.snd.fst, vS s.snd.snd.snd.snd.snd.snd.snd.snd.snd.snd.fst], AV.ptr 0 0, AV.ptr 1 0, vB false, vJ, vJ, vJ, vI (↑xs.length : Int), .val (.int .i64 i), vJ, vJ, vJ, vJ, vJ, vJ, vJ, vJ, vJ, vJ, vJ, vJ, vJ, vJ, vJ, vJ, vJ, vJ, vJ, vJ, vJ, vJ, vJ, vJ, vJ, vJ, vJ, vJ, vJ, vJ], [(0, AO.box [AV.rsl kb xs]), (1, .box (setC u))], 1000000, []⟩
theorem b128 (L : Lp) (R : Option Res → Prop) (N : St → Prop) (xs : List (Elem kb)) (s u : Elem kb) (i : Int) : (evP E128 G128 L (lp128 2) (st128 xs s u i) (rk128 L R 2 N)) = (
    br (decide (i < (↑xs.length : Int))) (br (strEq u.snd.snd.fst { data := #[] }) (R (some { av := vB (u.snd.fst == 1), obs := [], outs := [] })) (br (decide (xs.length ≤ 1048576)) (br (decide (ixO (fdB xs u.snd.snd.fst) < 0)) (R (some { av := vB false, obs := [], outs := [] })) (br (decide (0 ≤ ixO (fdB xs u.snd.snd.fst) ∧ ixO (fdB xs u.snd.snd.fst) < (↑xs.length : Int))) (br ((xs.getD (ixO (fdB xs u.snd.snd.fst)).toNat (edflt kb)).snd.fst == u.snd.fst) (R (some { av := vB false, obs := [], outs := [] })) (br (decide (0 ≤ ixO (fdB xs u.snd.snd.fst) ∧ ixO (fdB xs u.snd.snd.fst) < (↑xs.length : Int))) (N { tm := [AV.agg [AV.rsl kb xs], AV.agg [vS s.fst, vI s.snd.fst, vS s.snd.snd.fst, vS s.snd.snd.snd.fst, vS s.snd.snd.snd.snd.fst, vS s.snd.snd.snd.snd.snd.fst, vS s.snd.snd.snd.snd.snd.snd.fst, vS s.snd.snd.snd.snd.snd.snd.snd.fst, vS s.snd.snd.snd.snd.snd.snd.snd.snd.fst, vS s.snd.snd.snd.snd.snd.snd.snd.snd.snd.fst, vS s.snd.snd.snd.snd.snd.snd.snd.snd.snd.snd.fst], AV.ptr 0 0, AV.ptr 1 0, vB false, vJ, vJ, vJ, vI (↑xs.length : Int), vI (IntKind.i64.wrap (i + 1)), vJ, vJ, vJ, vJ, vJ, vJ, vJ, vJ, vJ, vJ, vJ, vJ, vJ, vJ, vJ, vJ, vJ, vJ, vJ, vJ, vJ, vJ, vJ, vJ, vJ, vJ, vJ, vJ, vJ, vJ], ob := [(0, AO.box [AV.rsl kb xs]), (1, AO.box [vS (xs.getD (ixO (fdB xs u.snd.snd.fst)).toNat (edflt kb)).fst, vI (xs.getD (ixO (fdB xs u.snd.snd.fst)).toNat (edflt kb)).snd.fst, vS (xs.getD (ixO (fdB xs u.snd.snd.fst)).toNat (edflt kb)).snd.snd.fst, vS (xs.getD (ixO (fdB xs u.snd.snd.fst)).toNat (edflt kb)).snd.snd.snd.fst, vS (xs.getD (ixO (fdB xs u.snd.snd.fst)).toNat (edflt kb)).snd.snd.snd.snd.fst, vS (xs.getD (ixO (fdB xs u.snd.snd.fst)).toNat (edflt kb)).snd.snd.snd.snd.snd.fst, vS (xs.getD (ixO (fdB xs u.snd.snd.fst)).toNat (edflt kb)).snd.snd.snd.snd.snd.snd.fst, vS (xs.getD (ixO (fdB xs u.snd.snd.fst)).toNat (edflt kb)).snd.snd.snd.snd.snd.snd.snd.fst, vS (xs.getD (ixO (fdB xs u.snd.snd.fst)).toNat (edflt kb)).snd.snd.snd.snd.snd.snd.snd.snd.fst, vS (xs.getD (ixO (fdB xs u.snd.snd.fst)).toNat (edflt kb)).snd.snd.snd.snd.snd.snd.snd.snd.snd.fst, vS (xs.getD (ixO (fdB xs u.snd.snd.fst)).toNat (edflt kb)).snd.snd.snd.snd.snd.snd.snd.snd.snd.snd.fst])], nx := 1000000, ps := [] }) False)) False)) False)) (R (some { av := vB false, obs := [], outs := [] }))) := by kernel_rfl
theorem ldB_root {xs : List (Elem kb)} {m : Nat} {u : Elem kb} (h : strEq u.2.2.1 ⟨#[]⟩ = true) : ldB xs (m + 1) u = (u.2.1 == 1) := by unfold ldB; rw [h]
theorem ldB_none {xs : List (Elem kb)} {m : Nat} {u : Elem kb} (h : strEq u.2.2.1 ⟨#[]⟩ = false) (h2 : fdB xs u.2.2.1 = none) : ldB xs (m + 1) u = false := by unfold ldB; rw [h, h2]
theorem ldB_some {xs : List (Elem kb)} {m : Nat} {u : Elem kb} {k : Nat} (h : strEq u.2.2.1 ⟨#[]⟩ = false) (h2 : fdB xs u.2.2.1 = some k) : ldB xs (m + 1) u = match (atB xs k).2.1 == u.2.1 with | true => false | false => ldB xs m (atB xs k) := by
  conv => lhs; unfold ldB
  rw [h, h2]
theorem rtB_root {xs : List (Elem kb)} {m : Nat} {u : Elem kb} (h : strEq u.2.2.1 ⟨#[]⟩ = true) : rtB xs (m + 1) u = (u.2.1 == 1) := by unfold rtB; rw [h]
theorem rtB_none {xs : List (Elem kb)} {m : Nat} {u : Elem kb} (h : strEq u.2.2.1 ⟨#[]⟩ = false) (h2 : okB xs u.2.2.1 = false) : rtB xs (m + 1) u = false := by unfold rtB; rw [h, h2]
theorem rtB_some {xs : List (Elem kb)} {m : Nat} {u : Elem kb} (h : strEq u.2.2.1 ⟨#[]⟩ = false) (h2 : okB xs u.2.2.1 = true) : rtB xs (m + 1) u = match (atB xs (lnB xs u.2.2.1)).2.1 == u.2.1 with | true => false | false => rtB xs m (atB xs (lnB xs u.2.2.1)) := by
  conv => lhs; unfold rtB
  rw [h, h2]
theorem fdB_lt {xs : List (Elem kb)} {t : ByteArray} {k : Nat} (h : fdB xs t = some k) : k < xs.length := by
  unfold fdB fd at h
  have := List.mem_of_find?_eq_some h
  simpa using this
theorem h128 : G1Ok Tryd.prog 128 g128 := by
  intro args obs k h
  unfold g128 at h
  split at h
  · rename_i k xs us
    split at h
    rotate_left
    · exact h.elim
    rename_i s hs
    obtain rfl := elemOf_inv hs
    obtain ⟨hl, h⟩ := br_and h
    have hl' := of_decide_eq_true hl
    refine ⟨_, ctr_fn ok0 hg128 Tryd.func128 (by kernel_rfl) (by kernel_rfl) (by kernel_rfl) fun C => ?_, h⟩
    show bodyP E0 G128 _ Tryd.f128 [.agg [.rsl kb xs], .agg (setC s)] [] _
    rw [e128]
    refine loopUp okf128 hg128 (fun i u => st128 xs s u i) xs.length (fun i u => ldB xs (xs.length - i) u = ldB xs xs.length s) (fun N i u hi hu next => ?_) s rfl
    show evP E128 G128 _ (lp128 2) (st128 xs s u i) (rk128 _ _ 2 _)
    rw [b128, wrap_id (n := (i : Int) + 1) (by omega) (by omega)]
    refine br_dec (fun h2 => ?_) (fun h2 => ?_)
    · have e : xs.length - i = (xs.length - (i + 1)) + 1 := by omega
      rw [e] at hu
      refine br_intro (fun h3 => ?_) (fun h3 => br_t hl ?_)
      · rw [ldB_root h3] at hu
        show _ = _
        rw [← hu]
      cases hf : fdB xs u.2.2.1 with
      | none =>
        rw [ldB_none h3 hf] at hu
        refine br_yes (by decide) ?_
        show _ = _
        rw [← hu]
      | some k =>
        rw [ldB_some h3 hf] at hu
        have hk := fdB_lt hf
        have e1 : ixO (some k) = (k : Int) := rfl
        rw [e1, Int.toNat_natCast]
        refine br_no (by omega) (br_yes ⟨by omega, by omega⟩ (br_intro (fun h4 => ?_) (fun h4 => br_yes ⟨by omega, by omega⟩ ?_)))
        · have h4' : ((atB xs k).2.1 == u.2.1) = true := h4
          rw [h4'] at hu
          show _ = _
          rw [← hu]
        · have h4' : ((atB xs k).2.1 == u.2.1) = false := h4
          rw [h4'] at hu
          exact next (by omega) (atB xs k) hu
    · have e : xs.length - i = 0 := by omega
      rw [e] at hu
      show _ = _
      rw [← hu]
      rfl
  · exact h.elim
noncomputable def E112 : Env := E0.of Tryd.f112
noncomputable def G112 : Gk := gk [(151, g151)]
noncomputable def lp112 (n : Nat) : Code := (loopOf n (codeOf Tryd.f112)).getD .skip
noncomputable def ct112 (L : Lp) (R : Option Res → Prop) (n : Nat) : Kt := contOf E112 G112 L n (codeOf Tryd.f112) (endK E112 Tryd.f112.results.toList R)
noncomputable def rk112 (L : Lp) (R : Option Res → Prop) (n : Nat) (N : St → Prop) : Kt := rk (jof E112 (lp112 n)) N (ct112 L R n)
noncomputable def rkn112 (L : Lp) (R : Option Res → Prop) (n : Nat) (N : St → Prop) (m : Nat) (N2 : St → Prop) : Kt := rk (jof E112 (lp112 m)) N2 (contOf E112 G112 L m (lp112 n) (rk112 L R n N))
noncomputable def LOOPN112 (L : Lp) (R : Option Res → Prop) (n : Nat) (N : St → Prop) (m : Nat) (st : St) : Prop := L (lp112 m) st (contOf E112 G112 L m (lp112 n) (rk112 L R n N))
noncomputable def LOOP112 (L : Lp) (R : Option Res → Prop) (n : Nat) (st : St) : Prop := L (lp112 n) st (ct112 L R n)
theorem hg112 : HG Tryd.prog G112 := (hg_cons h151 hg_nil)
theorem okf112 : Ok Tryd.prog E112 := ok0.of Tryd.f112
theorem e112 (L : Lp) (R : Option Res → Prop) (xs : List (Elem kb)) (s : Elem kb) : (bodyP E0 G112 L Tryd.f112 [.agg [.rsl kb xs], .agg (setC s)] [] R) = (
    LOOP112 L R 2 { tm := [AV.agg [AV.rsl kb xs], AV.agg [vS s.fst, vI s.snd.fst, vS s.snd.snd.fst, vS s.snd.snd.snd.fst, vS s.snd.snd.snd.snd.fst, vS s.snd.snd.snd.snd.snd.fst, vS s.snd.snd.snd.snd.snd.snd.fst, vS s.snd.snd.snd.snd.snd.snd.snd.fst, vS s.snd.snd.snd.snd.snd.snd.snd.snd.fst, vS s.snd.snd.snd.snd.snd.snd.snd.snd.snd.fst, vS s.snd.snd.snd.snd.snd.snd.snd.snd.snd.snd.fst], AV.ptr 0 0, AV.ptr 1 0, vB false, vI 0, vJ, vJ, vJ, vJ, vJ, vJ, vJ, vJ, vJ, vJ, vJ, vJ, vJ, vJ, vJ, vJ, vJ, vJ, vJ, vJ, vJ, vJ, vJ, vJ, vJ, vJ, vJ, vJ, vJ, vJ, vJ, vJ, vJ, vJ, vJ, vJ, vJ, vJ, vJ, vJ], ob := [(0, AO.box [AV.rsl kb xs]), (1, AO.box [vS s.fst, vI s.snd.fst, vS s.snd.snd.fst, vS s.snd.snd.snd.fst, vS s.snd.snd.snd.snd.fst, vS s.snd.snd.snd.snd.snd.fst, vS s.snd.snd.snd.snd.snd.snd.fst, vS s.snd.snd.snd.snd.snd.snd.snd.fst, vS s.snd.snd.snd.snd.snd.snd.snd.snd.fst, vS s.snd.snd.snd.snd.snd.snd.snd.snd.snd.fst, vS s.snd.snd.snd.snd.snd.snd.snd.snd.snd.snd.fst])], nx := 1000000, ps := [] }) := by kernel_rfl
def st112 (xs : List (Elem kb)) (s u : Elem kb) (i : Int) : St :=  ⟨[AV.agg [AV.rsl kb xs], AV.agg [vS s.fst, vI s.snd.fst, vS s.snd.snd.fst, vS s.snd.snd.snd.fst, vS s.snd.snd.snd.snd.fst, vS s.snd.snd.snd.snd.snd.fst, vS s.snd.snd.snd.snd.snd.snd.fst, vS s.snd.snd.snd.snd.snd.snd.snd.fst, vS s.snd.snd.snd.snd.snd.snd.snd.snd.fst, vS s.snd.snd.snd.snd.snd.snd.snd.snd.snd.fst, vS s.snd.snd.snd.snd.snd.snd.snd.snd.snd.snd.fst], AV.ptr 0 0, AV.ptr 1 0, vB false, .val (.int .i64 i), vJ, vJ, vJ, vJ, vJ, vJ, vJ, vJ, vJ, vJ, vJ, vJ, vJ, vJ, vJ, vJ, vJ, vJ, vJ, vJ, vJ, vJ, vJ, vJ, vJ, vJ, vJ, vJ, vJ, vJ, vJ, vJ, vJ, vJ, vJ, vJ, vJ, vJ, vJ, vJ], [(0, AO.box [AV.rsl kb xs]), (1, .box (setC u))], 1000000, []⟩
theorem b112 (L : Lp) (R : Option Res → Prop) (N : St → Prop) (xs : List (Elem kb)) (s u : Elem kb) (i : Int) : (evP E112 G112 L (lp112 2) (st112 xs s u i) (rk112 L R 2 N)) = (
    br (decide (i ≤ (↑xs.length : Int))) (br (strEq u.snd.snd.fst { data := #[] }) (R (some { av := vB (u.snd.fst == 1), obs := [], outs := [] })) (br (decide (xs.length ≤ 1048576)) (br (!okB xs u.snd.snd.fst) (R (some { av := vB false, obs := [], outs := [] })) (br (decide (0 ≤ (↑(lnB xs u.snd.snd.fst) : Int) ∧ (↑(lnB xs u.snd.snd.fst) : Int) < (↑xs.length : Int))) (br ((xs.getD (↑(lnB xs u.snd.snd.fst) : Int).toNat (edflt kb)).snd.fst == u.snd.fst) (R (some { av := vB false, obs := [], outs := [] })) (br (decide (0 ≤ (↑(lnB xs u.snd.snd.fst) : Int) ∧ (↑(lnB xs u.snd.snd.fst) : Int) < (↑xs.length : Int))) (N { tm := [AV.agg [AV.rsl kb xs], AV.agg [vS s.fst, vI s.snd.fst, vS s.snd.snd.fst, vS s.snd.snd.snd.fst, vS s.snd.snd.snd.snd.fst, vS s.snd.snd.snd.snd.snd.fst, vS s.snd.snd.snd.snd.snd.snd.fst, vS s.snd.snd.snd.snd.snd.snd.snd.fst, vS s.snd.snd.snd.snd.snd.snd.snd.snd.fst, vS s.snd.snd.snd.snd.snd.snd.snd.snd.snd.fst, vS s.snd.snd.snd.snd.snd.snd.snd.snd.snd.snd.fst], AV.ptr 0 0, AV.ptr 1 0, vB false, vI (IntKind.i64.wrap (i + 1)), vJ, vJ, vJ, vJ, vJ, vJ, vJ, vJ, vJ, vJ, vJ, vJ, vJ, vJ, vJ, vJ, vJ, vJ, vJ, vJ, vJ, vJ, vJ, vJ, vJ, vJ, vJ, vJ, vJ, vJ, vJ, vJ, vJ, vJ, vJ, vJ, vJ, vJ, vJ, vJ], ob := [(0, AO.box [AV.rsl kb xs]), (1, AO.box [vS (xs.getD (↑(lnB xs u.snd.snd.fst) : Int).toNat (edflt kb)).fst, vI (xs.getD (↑(lnB xs u.snd.snd.fst) : Int).toNat (edflt kb)).snd.fst, vS (xs.getD (↑(lnB xs u.snd.snd.fst) : Int).toNat (edflt kb)).snd.snd.fst, vS (xs.getD (↑(lnB xs u.snd.snd.fst) : Int).toNat (edflt kb)).snd.snd.snd.fst, vS (xs.getD (↑(lnB xs u.snd.snd.fst) : Int).toNat (edflt kb)).snd.snd.snd.snd.fst, vS (xs.getD (↑(lnB xs u.snd.snd.fst) : Int).toNat (edflt kb)).snd.snd.snd.snd.snd.fst, vS (xs.getD (↑(lnB xs u.snd.snd.fst) : Int).toNat (edflt kb)).snd.snd.snd.snd.snd.snd.fst, vS (xs.getD (↑(lnB xs u.snd.snd.fst) : Int).toNat (edflt kb)).snd.snd.snd.snd.snd.snd.snd.fst, vS (xs.getD (↑(lnB xs u.snd.snd.fst) : Int).toNat (edflt kb)).snd.snd.snd.snd.snd.snd.snd.snd.fst, vS (xs.getD (↑(lnB xs u.snd.snd.fst) : Int).toNat (edflt kb)).snd.snd.snd.snd.snd.snd.snd.snd.snd.fst, vS (xs.getD (↑(lnB xs u.snd.snd.fst) : Int).toNat (edflt kb)).snd.snd.snd.snd.snd.snd.snd.snd.snd.snd.fst])], nx := 1000000, ps := [] }) False)) False)) False)) (R (some { av := vB false, obs := [], outs := [] }))) := by kernel_rfl
theorem h112 : G1Ok Tryd.prog 112 g112 := by
  intro args obs k h
  unfold g112 at h
  split at h
  · rename_i k xs us
    split at h
    rotate_left
    · exact h.elim
    rename_i s hs
    obtain rfl := elemOf_inv hs
    obtain ⟨hl, h⟩ := br_and h
    have hl' := of_decide_eq_true hl
    refine ⟨_, ctr_fn ok0 hg112 Tryd.func112 (by kernel_rfl) (by kernel_rfl) (by kernel_rfl) fun C => ?_, h⟩
    show bodyP E0 G112 _ Tryd.f112 [.agg [.rsl kb xs], .agg (setC s)] [] _
    rw [e112]
    refine loopUp okf112 hg112 (fun i u => st112 xs s u i) (xs.length + 1) (fun i u => rtB xs (xs.length + 1 - i) u = rtB xs (xs.length + 1) s) (fun N i u hi hu next => ?_) s rfl
    show evP E112 G112 _ (lp112 2) (st112 xs s u i) (rk112 _ _ 2 _)
    rw [b112, wrap_id (n := (i : Int) + 1) (by omega) (by omega)]
    refine br_dec (fun h2 => ?_) (fun h2 => ?_)
    · have e : xs.length + 1 - i = (xs.length - i) + 1 := by omega
      rw [e] at hu
      refine br_intro (fun h3 => ?_) (fun h3 => br_t hl ?_)
      · rw [rtB_root h3] at hu
        show _ = _
        rw [← hu]
      refine br_not (fun h4 => ?_) (fun h4 => ?_)
      · rw [rtB_none h3 h4] at hu
        show _ = _
        rw [← hu]
      · rw [rtB_some h3 h4] at hu
        have hk : lnB xs u.2.2.1 < xs.length := by
          unfold okB at h4
          simp only [Bool.and_eq_true, decide_eq_true_eq] at h4
          exact h4.1
        rw [Int.toNat_natCast]
        refine br_yes ⟨by omega, by omega⟩ (br_intro (fun h4 => ?_) (fun h4 => br_yes ⟨by omega, by omega⟩ ?_))
        · have h4' : ((atB xs (lnB xs u.2.2.1)).2.1 == u.2.1) = true := h4
          rw [h4'] at hu
          show _ = _
          rw [← hu]
        · have h4' : ((atB xs (lnB xs u.2.2.1)).2.1 == u.2.1) = false := h4
          rw [h4'] at hu
          have e2 : xs.length + 1 - (i + 1) = xs.length - i := by omega
          exact next (by omega) (atB xs (lnB xs u.2.2.1)) (by rw [e2]; exact hu)
    · have e : xs.length + 1 - i = 0 := by omega
      rw [e] at hu
      show _ = _
      rw [← hu]
      rfl
  · exact h.elim
end Go.Proofs.YtljilcingbohkabDoor.Ev
