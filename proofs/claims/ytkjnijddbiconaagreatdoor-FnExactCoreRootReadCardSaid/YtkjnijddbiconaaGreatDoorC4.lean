/- Sets of a core that are valid: contracts. -/
import Derived.Test.YtkjnijddbiconaaGreatDoorC3
import Derived.Test.YtkjnijddbiconaaGreatDoorD15
namespace Go.Proofs.YtkjnijddbiconaaGreatDoor.Ev
open Go
set_option linter.unusedVariables false
set_option linter.unusedSimpArgs false
set_option maxRecDepth 100000
def mps (e : Elem kc) : List (Elem k3) := [(e.2.2.2.1, e.2.2.2.2.1, e.2.2.2.2.2.1, ()), (e.2.2.2.2.2.2.1, e.2.2.2.2.2.2.2.1, e.2.2.2.2.2.2.2.2.1, ()), (e.2.2.2.2.2.2.2.2.2.1, e.2.2.2.2.2.2.2.2.2.2.1, e.2.2.2.2.2.2.2.2.2.2.2.1, ()), (e.2.2.2.2.2.2.2.2.2.2.2.2.1, e.2.2.2.2.2.2.2.2.2.2.2.2.2.1, e.2.2.2.2.2.2.2.2.2.2.2.2.2.2.1, ()), (e.2.2.2.2.2.2.2.2.2.2.2.2.2.2.2.1, e.2.2.2.2.2.2.2.2.2.2.2.2.2.2.2.2.1, e.2.2.2.2.2.2.2.2.2.2.2.2.2.2.2.2.2.1, ()), (e.2.2.2.2.2.2.2.2.2.2.2.2.2.2.2.2.2.2.1, e.2.2.2.2.2.2.2.2.2.2.2.2.2.2.2.2.2.2.2.1, e.2.2.2.2.2.2.2.2.2.2.2.2.2.2.2.2.2.2.2.2.1, ()), (e.2.2.2.2.2.2.2.2.2.2.2.2.2.2.2.2.2.2.2.2.2.1, e.2.2.2.2.2.2.2.2.2.2.2.2.2.2.2.2.2.2.2.2.2.2.1, e.2.2.2.2.2.2.2.2.2.2.2.2.2.2.2.2.2.2.2.2.2.2.2.1, ()), (e.2.2.2.2.2.2.2.2.2.2.2.2.2.2.2.2.2.2.2.2.2.2.2.2.1, e.2.2.2.2.2.2.2.2.2.2.2.2.2.2.2.2.2.2.2.2.2.2.2.2.2.1, e.2.2.2.2.2.2.2.2.2.2.2.2.2.2.2.2.2.2.2.2.2.2.2.2.2.2.1, ())]
def hom (e : Elem kc) : Elem k3 := (e.2.2.2.2.2.2.2.2.2.2.2.2.2.2.2.2.2.2.2.2.2.2.2.2.2.2.2.1, e.2.2.2.2.2.2.2.2.2.2.2.2.2.2.2.2.2.2.2.2.2.2.2.2.2.2.2.2.1, e.2.2.2.2.2.2.2.2.2.2.2.2.2.2.2.2.2.2.2.2.2.2.2.2.2.2.2.2.2.1, ())
def setK (e : Elem kc) : List AV := [.val (.string e.1), .val (.int .i64 e.2.1), .val (.string e.2.2.1), .val (.int .i64 e.2.2.2.1), .val (.int .i64 e.2.2.2.2.1), .val (.int .i64 e.2.2.2.2.2.1), .val (.int .i64 e.2.2.2.2.2.2.1), .val (.int .i64 e.2.2.2.2.2.2.2.1), .val (.int .i64 e.2.2.2.2.2.2.2.2.1), .val (.int .i64 e.2.2.2.2.2.2.2.2.2.1), .val (.int .i64 e.2.2.2.2.2.2.2.2.2.2.1), .val (.int .i64 e.2.2.2.2.2.2.2.2.2.2.2.1), .val (.int .i64 e.2.2.2.2.2.2.2.2.2.2.2.2.1), .val (.int .i64 e.2.2.2.2.2.2.2.2.2.2.2.2.2.1), .val (.int .i64 e.2.2.2.2.2.2.2.2.2.2.2.2.2.2.1), .val (.int .i64 e.2.2.2.2.2.2.2.2.2.2.2.2.2.2.2.1), .val (.int .i64 e.2.2.2.2.2.2.2.2.2.2.2.2.2.2.2.2.1), .val (.int .i64 e.2.2.2.2.2.2.2.2.2.2.2.2.2.2.2.2.2.1), .val (.int .i64 e.2.2.2.2.2.2.2.2.2.2.2.2.2.2.2.2.2.2.1), .val (.int .i64 e.2.2.2.2.2.2.2.2.2.2.2.2.2.2.2.2.2.2.2.1), .val (.int .i64 e.2.2.2.2.2.2.2.2.2.2.2.2.2.2.2.2.2.2.2.2.1), .val (.int .i64 e.2.2.2.2.2.2.2.2.2.2.2.2.2.2.2.2.2.2.2.2.2.1), .val (.int .i64 e.2.2.2.2.2.2.2.2.2.2.2.2.2.2.2.2.2.2.2.2.2.2.1), .val (.int .i64 e.2.2.2.2.2.2.2.2.2.2.2.2.2.2.2.2.2.2.2.2.2.2.2.1), .val (.int .i64 e.2.2.2.2.2.2.2.2.2.2.2.2.2.2.2.2.2.2.2.2.2.2.2.2.1), .val (.int .i64 e.2.2.2.2.2.2.2.2.2.2.2.2.2.2.2.2.2.2.2.2.2.2.2.2.2.1), .val (.int .i64 e.2.2.2.2.2.2.2.2.2.2.2.2.2.2.2.2.2.2.2.2.2.2.2.2.2.2.1), .val (.int .i64 e.2.2.2.2.2.2.2.2.2.2.2.2.2.2.2.2.2.2.2.2.2.2.2.2.2.2.2.1), .val (.int .i64 e.2.2.2.2.2.2.2.2.2.2.2.2.2.2.2.2.2.2.2.2.2.2.2.2.2.2.2.2.1), .val (.int .i64 e.2.2.2.2.2.2.2.2.2.2.2.2.2.2.2.2.2.2.2.2.2.2.2.2.2.2.2.2.2.1), .val (.bool e.2.2.2.2.2.2.2.2.2.2.2.2.2.2.2.2.2.2.2.2.2.2.2.2.2.2.2.2.2.2.1)]
abbrev atC (xs : List (Elem kc)) (i : Nat) : Elem kc := xs.getD i (edflt kc)
abbrev atP (xs : List (Elem k3)) (i : Nat) : Elem k3 := xs.getD i (edflt k3)
def setV (e : Elem kc) : Bool := nameOk e.1 && (strEq e.2.2.1 ⟨#[]⟩ || nameOk e.2.2.1) && (e.2.1 == 1 || e.2.1 == 2) && pOk (hom e) && allB 8 fun j => pOk (atP (mps e) j)
def smC (e : Elem kc) : Bool := decide (e.1.size ≤ 1048576) && decide (e.2.2.1.size ≤ 1048576)
def g108 : G1
  | [.agg us], [], k => match elemOf kc us with
    | some e => br (smC e) (k ⟨.val (.bool (setV e)), [], []⟩) False
    | none => False
  | _, _, _ => False
def g199 : G1
  | [.agg [.val (.int .i64 a), .val (.int .i64 b), .val (.int .i64 c)]], [], k => k ⟨.val (.bool (!ptrOk a b c)), [], []⟩
  | _, _, _ => False
def g197 : G1
  | [.rsl [.int .i64, .int .i64, .int .i64] xs, .fn 199 []], [], k => br (decide (xs.length ≤ 1048576)) (k ⟨.val (.int .i64 (fIx xs.length fun i => !pOk (atP xs i))), [], []⟩) False
  | _, _, _ => False
def g130 : G1
  | [.rsl [.int .i64, .int .i64, .int .i64] xs, .fn 199 []], [], k => br (decide (xs.length ≤ 1048576)) (k ⟨.val (.bool (anyB xs.length fun i => !pOk (atP xs i))), [], []⟩) False
  | _, _, _ => False
def rOk (e : Elem k3) : Bool := realP e.1 e.2.1 e.2.2.1
noncomputable def G199 : Gk := gk [(195, g195)]
theorem hg199 : HG Tryz.prog G199 := (hg_cons h195 hg_nil)
theorem e199 (L : Lp) (R : Option Res → Prop) (a b c : Int) : (bodyP Ef G199 L Tryz.f199 [.agg [.val (.int .i64 a), .val (.int .i64 b), .val (.int .i64 c)]] [] R) = (
    R (some { av := vB !ptrOk a b c, obs := [], outs := [] })) := by kernel_rfl
theorem h199 : G1Ok Tryz.prog 199 g199 := by
  intro args obs k h
  unfold g199 at h
  split at h
  · rename_i k a b c
    refine ⟨_, ctr_fn okf hg199 Tryz.func199 (by kernel_rfl) (by kernel_rfl) (by kernel_rfl) fun C => ?_, h⟩
    rw [e199]
  · exact h.elim
noncomputable def E197 : Env := Ef.of Tryz.f197
noncomputable def G197 : Gk := gk [(199, g199)]
noncomputable def lp197 (n : Nat) : Code := (loopOf n (codeOf Tryz.f197)).getD .skip
noncomputable def ct197 (L : Lp) (R : Option Res → Prop) (n : Nat) : Kt := contOf E197 G197 L n (codeOf Tryz.f197) (endK E197 Tryz.f197.results.toList R)
noncomputable def rk197 (L : Lp) (R : Option Res → Prop) (n : Nat) (N : St → Prop) : Kt := rk (jof E197 (lp197 n)) N (ct197 L R n)
noncomputable def LOOP197 (L : Lp) (R : Option Res → Prop) (n : Nat) (st : St) : Prop := L (lp197 n) st (ct197 L R n)
theorem hg197 : HG Tryz.prog G197 := (hg_cons h199 hg_nil)
theorem okf197 : Ok Tryz.prog E197 := okf.of Tryz.f197
theorem e197 (L : Lp) (R : Option Res → Prop) (xs : List (Elem k3)) : (bodyP Ef G197 L Tryz.f197 [.rsl k3 xs, .fn 199 []] [] R) = (
    LOOP197 L R 2 { tm := [AV.rsl k3 xs, AV.fn 199 [], vJ, vJ, vJ, vJ, vJ, vI (↑xs.length : Int), vI 0, vJ, vJ, vJ, vJ, vJ, vJ, vJ, vJ, vJ, vJ], ob := [], nx := 1000000, ps := [] }) := by kernel_rfl
def st197 (xs : List (Elem k3)) (i : Int) : St :=  ⟨[AV.rsl k3 xs, AV.fn 199 [], vJ, vJ, vJ, vJ, vJ, vI (↑xs.length : Int), .val (.int .i64 i), vJ, vJ, vJ, vJ, vJ, vJ, vJ, vJ, vJ, vJ], [], 1000000, []⟩
theorem b197 (L : Lp) (R : Option Res → Prop) (N : St → Prop) (xs : List (Elem k3)) (i : Int) : (evP E197 G197 L (lp197 2) (st197 xs i) (rk197 L R 2 N)) = (
    br (decide (i < (↑xs.length : Int))) (br (decide (0 ≤ i ∧ i < (↑xs.length : Int))) (br (!ptrOk (xs.getD i.toNat (edflt k3)).fst (xs.getD i.toNat (edflt k3)).snd.fst (xs.getD i.toNat (edflt k3)).snd.snd.fst) (R (some { av := vI i, obs := [], outs := [] })) (N { tm := [AV.rsl k3 xs, AV.fn 199 [], vJ, vJ, vJ, vJ, vJ, vI (↑xs.length : Int), vI (IntKind.i64.wrap (i + 1)), vJ, vJ, vJ, vJ, vJ, vJ, vJ, vJ, vJ, vJ], ob := [], nx := 1000000, ps := [] })) False) (R (some { av := vI (-1), obs := [], outs := [] }))) := by kernel_rfl
theorem h197 : G1Ok Tryz.prog 197 g197 := by
  intro args obs k h
  unfold g197 at h
  split at h
  · rename_i k xs
    obtain ⟨hl, h⟩ := brd h
    refine ⟨_, ctr_fn okf hg197 Tryz.func197 (by kernel_rfl) (by kernel_rfl) (by kernel_rfl) fun C => ?_, h⟩
    rw [e197]
    refine loopFind okf197 hg197 (fun i => st197 xs i) xs.length (fun i => !pOk (atP xs i)) (by omega) (fun N i hi hw next found none => ?_)
    show evP E197 G197 _ (lp197 2) (st197 xs i) (rk197 _ _ 2 _)
    rw [b197, hw, Int.toNat_natCast]
    refine br_dec (fun h2 => br_yes ⟨by omega, h2⟩ (br_intro (fun h3 => ?_) (fun h3 => ?_))) (fun h2 => ?_)
    · show _ = _
      rw [found (by omega) h3]
    · exact next (by omega) h3
    · show _ = _
      rw [none (by omega)]
  · exact h.elim
noncomputable def G130 : Gk := gk [(197, g197)]
theorem hg130 : HG Tryz.prog G130 := (hg_cons h197 hg_nil)
theorem e130 (L : Lp) (R : Option Res → Prop) (xs : List (Elem k3)) : (bodyP Ef G130 L Tryz.f130 [.rsl k3 xs, .fn 199 []] [] R) = (
    br (decide (xs.length ≤ 1048576)) (R (some { av := vB (decide ((fIx xs.length fun i => !pOk (atP xs i)) ≥ 0)), obs := [], outs := [] })) False) := by kernel_rfl
theorem h130 : G1Ok Tryz.prog 130 g130 := by
  intro args obs k h
  unfold g130 at h
  split at h
  · rename_i k xs
    obtain ⟨hl, h⟩ := br_and h
    refine ⟨_, ctr_fn okf hg130 Tryz.func130 (by kernel_rfl) (by kernel_rfl) (by kernel_rfl) fun C => ?_, h⟩
    rw [e130]
    refine br_t hl ?_
    show _ = _
    rw [fIx_ge]
  · exact h.elim
noncomputable def E108 : Env := Ef.of Tryz.f108
noncomputable def G108 : Gk := gk [(167, g167), (109, g195)]
noncomputable def lp108 (n : Nat) : Code := (loopOf n (codeOf Tryz.f108)).getD .skip
noncomputable def ct108 (L : Lp) (R : Option Res → Prop) (n : Nat) : Kt := contOf E108 G108 L n (codeOf Tryz.f108) (endK E108 Tryz.f108.results.toList R)
noncomputable def rk108 (L : Lp) (R : Option Res → Prop) (n : Nat) (N : St → Prop) : Kt := rk (jof E108 (lp108 n)) N (ct108 L R n)
noncomputable def LOOP108 (L : Lp) (R : Option Res → Prop) (n : Nat) (st : St) : Prop := L (lp108 n) st (ct108 L R n)
theorem hg108 : HG Tryz.prog G108 := (hg_cons h167 (hg_cons h109 hg_nil))
theorem okf108 : Ok Tryz.prog E108 := okf.of Tryz.f108
theorem e108 (L : Lp) (R : Option Res → Prop) (e : Elem kc) : (bodyP Ef G108 L Tryz.f108 [.agg (setK e)] [] R) = (
    br (decide (ByteArray.size e.fst ≤ 1048576)) (br (!nameOk e.fst) (R (some { av := vB false, obs := [], outs := [] })) (br (!strEq e.snd.snd.fst { data := #[] }) (br (decide (ByteArray.size e.snd.snd.fst ≤ 1048576)) (br (!nameOk e.snd.snd.fst) (R (some { av := vB false, obs := [], outs := [] })) (br (decide (e.snd.fst < 1)) (R (some { av := vB false, obs := [], outs := [] })) (br (decide (e.snd.fst > 2)) (R (some { av := vB false, obs := [], outs := [] })) (br (!ptrOk e.snd.snd.snd.snd.snd.snd.snd.snd.snd.snd.snd.snd.snd.snd.snd.snd.snd.snd.snd.snd.snd.snd.snd.snd.snd.snd.snd.fst e.snd.snd.snd.snd.snd.snd.snd.snd.snd.snd.snd.snd.snd.snd.snd.snd.snd.snd.snd.snd.snd.snd.snd.snd.snd.snd.snd.snd.fst e.snd.snd.snd.snd.snd.snd.snd.snd.snd.snd.snd.snd.snd.snd.snd.snd.snd.snd.snd.snd.snd.snd.snd.snd.snd.snd.snd.snd.snd.fst) (R (some { av := vB false, obs := [], outs := [] })) (LOOP108 L R 4 { tm := [vJ, AV.ptr 0 0, vJ, vI 0, vJ, vJ, vJ, vJ, vJ, vJ, vJ, vJ, vJ, vJ, vJ, vJ, vJ, vJ, vJ, vJ, vJ, vJ, vJ, vJ, vJ, vJ, vJ, vJ, vJ, vJ, vJ, vJ, vJ, vJ, vJ, vJ, vJ, vJ, vJ, vJ, vJ, vJ, vJ, vJ, vJ], ob := [(0, AO.box (setK e))], nx := 1000000, ps := [] }))))) False) (br (decide (e.snd.fst < 1)) (R (some { av := vB false, obs := [], outs := [] })) (br (decide (e.snd.fst > 2)) (R (some { av := vB false, obs := [], outs := [] })) (br (!ptrOk e.snd.snd.snd.snd.snd.snd.snd.snd.snd.snd.snd.snd.snd.snd.snd.snd.snd.snd.snd.snd.snd.snd.snd.snd.snd.snd.snd.fst e.snd.snd.snd.snd.snd.snd.snd.snd.snd.snd.snd.snd.snd.snd.snd.snd.snd.snd.snd.snd.snd.snd.snd.snd.snd.snd.snd.snd.fst e.snd.snd.snd.snd.snd.snd.snd.snd.snd.snd.snd.snd.snd.snd.snd.snd.snd.snd.snd.snd.snd.snd.snd.snd.snd.snd.snd.snd.snd.fst) (R (some { av := vB false, obs := [], outs := [] })) (LOOP108 L R 4 { tm := [vJ, AV.ptr 0 0, vJ, vI 0, vJ, vJ, vJ, vJ, vJ, vJ, vJ, vJ, vJ, vJ, vJ, vJ, vJ, vJ, vJ, vJ, vJ, vJ, vJ, vJ, vJ, vJ, vJ, vJ, vJ, vJ, vJ, vJ, vJ, vJ, vJ, vJ, vJ, vJ, vJ, vJ, vJ, vJ, vJ, vJ, vJ], ob := [(0, AO.box (setK e))], nx := 1000000, ps := [] })))))) False) := by kernel_rfl
def st108 (e : Elem kc) (j : Int) : St :=  ⟨[vJ, AV.ptr 0 0, vJ, .val (.int .i64 j), vJ, vJ, vJ, vJ, vJ, vJ, vJ, vJ, vJ, vJ, vJ, vJ, vJ, vJ, vJ, vJ, vJ, vJ, vJ, vJ, vJ, vJ, vJ, vJ, vJ, vJ, vJ, vJ, vJ, vJ, vJ, vJ, vJ, vJ, vJ, vJ, vJ, vJ, vJ, vJ, vJ], [(0, AO.box (setK e))], 1000000, []⟩
theorem b108_0 (L : Lp) (R : Option Res → Prop) (N : St → Prop) (e : Elem kc) : (evP E108 G108 L (lp108 4) (st108 e 0) (rk108 L R 4 N)) = (
    br (!ptrOk e.snd.snd.snd.fst e.snd.snd.snd.snd.fst e.snd.snd.snd.snd.snd.fst) (R (some { av := vB false, obs := [], outs := [] })) (N { tm := [vJ, AV.ptr 0 0, vJ, vI 1, vJ, vJ, vJ, vJ, vJ, vJ, vJ, vJ, vJ, vJ, vJ, vJ, vJ, vJ, vJ, vJ, vJ, vJ, vJ, vJ, vJ, vJ, vJ, vJ, vJ, vJ, vJ, vJ, vJ, vJ, vJ, vJ, vJ, vJ, vJ, vJ, vJ, vJ, vJ, vJ, vJ], ob := [(0, AO.box (setK e))], nx := 1000000, ps := [] })) := by kernel_rfl
theorem b108_1 (L : Lp) (R : Option Res → Prop) (N : St → Prop) (e : Elem kc) : (evP E108 G108 L (lp108 4) (st108 e 1) (rk108 L R 4 N)) = (
    br (!ptrOk e.snd.snd.snd.snd.snd.snd.fst e.snd.snd.snd.snd.snd.snd.snd.fst e.snd.snd.snd.snd.snd.snd.snd.snd.fst) (R (some { av := vB false, obs := [], outs := [] })) (N { tm := [vJ, AV.ptr 0 0, vJ, vI 2, vJ, vJ, vJ, vJ, vJ, vJ, vJ, vJ, vJ, vJ, vJ, vJ, vJ, vJ, vJ, vJ, vJ, vJ, vJ, vJ, vJ, vJ, vJ, vJ, vJ, vJ, vJ, vJ, vJ, vJ, vJ, vJ, vJ, vJ, vJ, vJ, vJ, vJ, vJ, vJ, vJ], ob := [(0, AO.box (setK e))], nx := 1000000, ps := [] })) := by kernel_rfl
theorem b108_2 (L : Lp) (R : Option Res → Prop) (N : St → Prop) (e : Elem kc) : (evP E108 G108 L (lp108 4) (st108 e 2) (rk108 L R 4 N)) = (
    br (!ptrOk e.snd.snd.snd.snd.snd.snd.snd.snd.snd.fst e.snd.snd.snd.snd.snd.snd.snd.snd.snd.snd.fst e.snd.snd.snd.snd.snd.snd.snd.snd.snd.snd.snd.fst) (R (some { av := vB false, obs := [], outs := [] })) (N { tm := [vJ, AV.ptr 0 0, vJ, vI 3, vJ, vJ, vJ, vJ, vJ, vJ, vJ, vJ, vJ, vJ, vJ, vJ, vJ, vJ, vJ, vJ, vJ, vJ, vJ, vJ, vJ, vJ, vJ, vJ, vJ, vJ, vJ, vJ, vJ, vJ, vJ, vJ, vJ, vJ, vJ, vJ, vJ, vJ, vJ, vJ, vJ], ob := [(0, AO.box (setK e))], nx := 1000000, ps := [] })) := by kernel_rfl
theorem b108_3 (L : Lp) (R : Option Res → Prop) (N : St → Prop) (e : Elem kc) : (evP E108 G108 L (lp108 4) (st108 e 3) (rk108 L R 4 N)) = (
    br (!ptrOk e.snd.snd.snd.snd.snd.snd.snd.snd.snd.snd.snd.snd.fst e.snd.snd.snd.snd.snd.snd.snd.snd.snd.snd.snd.snd.snd.fst e.snd.snd.snd.snd.snd.snd.snd.snd.snd.snd.snd.snd.snd.snd.fst) (R (some { av := vB false, obs := [], outs := [] })) (N { tm := [vJ, AV.ptr 0 0, vJ, vI 4, vJ, vJ, vJ, vJ, vJ, vJ, vJ, vJ, vJ, vJ, vJ, vJ, vJ, vJ, vJ, vJ, vJ, vJ, vJ, vJ, vJ, vJ, vJ, vJ, vJ, vJ, vJ, vJ, vJ, vJ, vJ, vJ, vJ, vJ, vJ, vJ, vJ, vJ, vJ, vJ, vJ], ob := [(0, AO.box (setK e))], nx := 1000000, ps := [] })) := by kernel_rfl
theorem b108_4 (L : Lp) (R : Option Res → Prop) (N : St → Prop) (e : Elem kc) : (evP E108 G108 L (lp108 4) (st108 e 4) (rk108 L R 4 N)) = (
    br (!ptrOk e.snd.snd.snd.snd.snd.snd.snd.snd.snd.snd.snd.snd.snd.snd.snd.fst e.snd.snd.snd.snd.snd.snd.snd.snd.snd.snd.snd.snd.snd.snd.snd.snd.fst e.snd.snd.snd.snd.snd.snd.snd.snd.snd.snd.snd.snd.snd.snd.snd.snd.snd.fst) (R (some { av := vB false, obs := [], outs := [] })) (N { tm := [vJ, AV.ptr 0 0, vJ, vI 5, vJ, vJ, vJ, vJ, vJ, vJ, vJ, vJ, vJ, vJ, vJ, vJ, vJ, vJ, vJ, vJ, vJ, vJ, vJ, vJ, vJ, vJ, vJ, vJ, vJ, vJ, vJ, vJ, vJ, vJ, vJ, vJ, vJ, vJ, vJ, vJ, vJ, vJ, vJ, vJ, vJ], ob := [(0, AO.box (setK e))], nx := 1000000, ps := [] })) := by kernel_rfl
theorem b108_5 (L : Lp) (R : Option Res → Prop) (N : St → Prop) (e : Elem kc) : (evP E108 G108 L (lp108 4) (st108 e 5) (rk108 L R 4 N)) = (
    br (!ptrOk e.snd.snd.snd.snd.snd.snd.snd.snd.snd.snd.snd.snd.snd.snd.snd.snd.snd.snd.fst e.snd.snd.snd.snd.snd.snd.snd.snd.snd.snd.snd.snd.snd.snd.snd.snd.snd.snd.snd.fst e.snd.snd.snd.snd.snd.snd.snd.snd.snd.snd.snd.snd.snd.snd.snd.snd.snd.snd.snd.snd.fst) (R (some { av := vB false, obs := [], outs := [] })) (N { tm := [vJ, AV.ptr 0 0, vJ, vI 6, vJ, vJ, vJ, vJ, vJ, vJ, vJ, vJ, vJ, vJ, vJ, vJ, vJ, vJ, vJ, vJ, vJ, vJ, vJ, vJ, vJ, vJ, vJ, vJ, vJ, vJ, vJ, vJ, vJ, vJ, vJ, vJ, vJ, vJ, vJ, vJ, vJ, vJ, vJ, vJ, vJ], ob := [(0, AO.box (setK e))], nx := 1000000, ps := [] })) := by kernel_rfl
theorem b108_6 (L : Lp) (R : Option Res → Prop) (N : St → Prop) (e : Elem kc) : (evP E108 G108 L (lp108 4) (st108 e 6) (rk108 L R 4 N)) = (
    br (!ptrOk e.snd.snd.snd.snd.snd.snd.snd.snd.snd.snd.snd.snd.snd.snd.snd.snd.snd.snd.snd.snd.snd.fst e.snd.snd.snd.snd.snd.snd.snd.snd.snd.snd.snd.snd.snd.snd.snd.snd.snd.snd.snd.snd.snd.snd.fst e.snd.snd.snd.snd.snd.snd.snd.snd.snd.snd.snd.snd.snd.snd.snd.snd.snd.snd.snd.snd.snd.snd.snd.fst) (R (some { av := vB false, obs := [], outs := [] })) (N { tm := [vJ, AV.ptr 0 0, vJ, vI 7, vJ, vJ, vJ, vJ, vJ, vJ, vJ, vJ, vJ, vJ, vJ, vJ, vJ, vJ, vJ, vJ, vJ, vJ, vJ, vJ, vJ, vJ, vJ, vJ, vJ, vJ, vJ, vJ, vJ, vJ, vJ, vJ, vJ, vJ, vJ, vJ, vJ, vJ, vJ, vJ, vJ], ob := [(0, AO.box (setK e))], nx := 1000000, ps := [] })) := by kernel_rfl
theorem b108_7 (L : Lp) (R : Option Res → Prop) (N : St → Prop) (e : Elem kc) : (evP E108 G108 L (lp108 4) (st108 e 7) (rk108 L R 4 N)) = (
    br (!ptrOk e.snd.snd.snd.snd.snd.snd.snd.snd.snd.snd.snd.snd.snd.snd.snd.snd.snd.snd.snd.snd.snd.snd.snd.snd.fst e.snd.snd.snd.snd.snd.snd.snd.snd.snd.snd.snd.snd.snd.snd.snd.snd.snd.snd.snd.snd.snd.snd.snd.snd.snd.fst e.snd.snd.snd.snd.snd.snd.snd.snd.snd.snd.snd.snd.snd.snd.snd.snd.snd.snd.snd.snd.snd.snd.snd.snd.snd.snd.fst) (R (some { av := vB false, obs := [], outs := [] })) (N { tm := [vJ, AV.ptr 0 0, vJ, vI 8, vJ, vJ, vJ, vJ, vJ, vJ, vJ, vJ, vJ, vJ, vJ, vJ, vJ, vJ, vJ, vJ, vJ, vJ, vJ, vJ, vJ, vJ, vJ, vJ, vJ, vJ, vJ, vJ, vJ, vJ, vJ, vJ, vJ, vJ, vJ, vJ, vJ, vJ, vJ, vJ, vJ], ob := [(0, AO.box (setK e))], nx := 1000000, ps := [] })) := by kernel_rfl
theorem b108_8 (L : Lp) (R : Option Res → Prop) (N : St → Prop) (e : Elem kc) : (evP E108 G108 L (lp108 4) (st108 e 8) (rk108 L R 4 N)) = (
    R (some { av := vB true, obs := [], outs := [] })) := by kernel_rfl
theorem setV_n {e : Elem kc} (h : nameOk e.1 = false) : setV e = false := by unfold setV; rw [h]; rfl
theorem setV_f {e : Elem kc} (h : (strEq e.2.2.1 ⟨#[]⟩ || nameOk e.2.2.1) = false) : setV e = false := by unfold setV; rw [h]; simp
theorem setV_k {e : Elem kc} (h : (e.2.1 == 1 || e.2.1 == 2) = false) : setV e = false := by unfold setV; rw [h]; simp
theorem setV_h {e : Elem kc} (h : pOk (hom e) = false) : setV e = false := by unfold setV; rw [h]; simp
theorem setV_b {e : Elem kc} (h : (allB 8 fun j => pOk (atP (mps e) j)) = false) : setV e = false := by unfold setV; rw [h]; simp
theorem setV_t {e : Elem kc} (h1 : nameOk e.1 = true) (h2 : (strEq e.2.2.1 ⟨#[]⟩ || nameOk e.2.2.1) = true) (h3 : (e.2.1 == 1 || e.2.1 == 2) = true) (h4 : pOk (hom e) = true) (h5 : (allB 8 fun j => pOk (atP (mps e) j)) = true) : setV e = true := by
  unfold setV
  rw [h1, h2, h3, h4, h5]
  rfl
theorem h108 : G1Ok Tryz.prog 108 g108 := by
  intro args obs k h
  unfold g108 at h
  split at h
  · rename_i k us
    split at h
    rotate_left
    · exact h.elim
    rename_i e he
    obtain rfl := elemOf_inv he
    obtain ⟨hs, h⟩ := br_and h
    unfold smC at hs
    rw [Bool.and_eq_true] at hs
    refine ⟨_, ctr_fn okf hg108 Tryz.func108 (by kernel_rfl) (by kernel_rfl) (by kernel_rfl) fun C => ?_, h⟩
    show bodyP Ef G108 _ Tryz.f108 [.agg (setK e)] [] _
    rw [e108]
    refine br_t hs.1 (br_not (fun h1 => ?_) (fun h1 => (fun (tail : (strEq e.2.2.1 ⟨#[]⟩ || nameOk e.2.2.1) = true → _) => br_not (fun h2 => br_t hs.2 (br_not (fun h3 => ?_) (fun h3 => tail ?_))) (fun h2 => tail ?_)) (fun hf => ?_)))
    · show _ = _
      rw [setV_n h1]
    · show _ = _
      rw [setV_f (by rw [h2, h3]; rfl)]
    · rw [h3, Bool.or_true]
    · rw [h2, Bool.true_or]
    refine br_dec (fun h4 => ?_) (fun h4 => br_dec (fun h5 => ?_) (fun h5 => br_not (fun h6 => ?_) (fun h6 => ?_)))
    · show _ = _
      rw [setV_k (kindF (.inl h4))]
    · show _ = _
      rw [setV_k (kindF (.inr h5))]
    · show _ = _
      rw [setV_h h6]
    refine loopAll okf108 hg108 (st108 e) 8 (fun j => pOk (atP (mps e) j)) (by omega) (fun N j hj hw next fails done => ?_)
    have cs : j = 0 ∨ j = 1 ∨ j = 2 ∨ j = 3 ∨ j = 4 ∨ j = 5 ∨ j = 6 ∨ j = 7 ∨ j = 8 := by omega
    rcases cs with rfl | rfl | rfl | rfl | rfl | rfl | rfl | rfl | rfl
    · show evP E108 G108 _ (lp108 4) (st108 e 0) (rk108 _ _ 4 _)
      rw [b108_0]
      refine br_not (fun h7 => ?_) (fun h7 => next (by omega) h7)
      show _ = _
      rw [setV_b (fails (by omega) h7)]
    · show evP E108 G108 _ (lp108 4) (st108 e 1) (rk108 _ _ 4 _)
      rw [b108_1]
      refine br_not (fun h7 => ?_) (fun h7 => next (by omega) h7)
      show _ = _
      rw [setV_b (fails (by omega) h7)]
    · show evP E108 G108 _ (lp108 4) (st108 e 2) (rk108 _ _ 4 _)
      rw [b108_2]
      refine br_not (fun h7 => ?_) (fun h7 => next (by omega) h7)
      show _ = _
      rw [setV_b (fails (by omega) h7)]
    · show evP E108 G108 _ (lp108 4) (st108 e 3) (rk108 _ _ 4 _)
      rw [b108_3]
      refine br_not (fun h7 => ?_) (fun h7 => next (by omega) h7)
      show _ = _
      rw [setV_b (fails (by omega) h7)]
    · show evP E108 G108 _ (lp108 4) (st108 e 4) (rk108 _ _ 4 _)
      rw [b108_4]
      refine br_not (fun h7 => ?_) (fun h7 => next (by omega) h7)
      show _ = _
      rw [setV_b (fails (by omega) h7)]
    · show evP E108 G108 _ (lp108 4) (st108 e 5) (rk108 _ _ 4 _)
      rw [b108_5]
      refine br_not (fun h7 => ?_) (fun h7 => next (by omega) h7)
      show _ = _
      rw [setV_b (fails (by omega) h7)]
    · show evP E108 G108 _ (lp108 4) (st108 e 6) (rk108 _ _ 4 _)
      rw [b108_6]
      refine br_not (fun h7 => ?_) (fun h7 => next (by omega) h7)
      show _ = _
      rw [setV_b (fails (by omega) h7)]
    · show evP E108 G108 _ (lp108 4) (st108 e 7) (rk108 _ _ 4 _)
      rw [b108_7]
      refine br_not (fun h7 => ?_) (fun h7 => next (by omega) h7)
      show _ = _
      rw [setV_b (fails (by omega) h7)]
    · show evP E108 G108 _ (lp108 4) (st108 e 8) (rk108 _ _ 4 _)
      rw [b108_8]
      show _ = _
      rw [setV_t h1 hf (kindT h4 h5) h6 (done (by omega))]
  · exact h.elim
noncomputable def G134 : Gk := gk [(172, g167), (195, g195), (130, g130)]
theorem hg134 : HG Tryz.prog G134 := (hg_cons h172 (hg_cons h195 (hg_cons h130 hg_nil)))
theorem e134 (L : Lp) (R : Option Res → Prop) (e : Elem kc) : (bodyP Ef G134 L Tryz.f134 [.agg (setK e)] [] R) = (
    br (decide (ByteArray.size e.fst ≤ 1048576)) (br (!nameOk e.fst) (R (some { av := vB false, obs := [], outs := [] })) (br (!strEq e.snd.snd.fst { data := #[] }) (br (decide (ByteArray.size e.snd.snd.fst ≤ 1048576)) (br (!nameOk e.snd.snd.fst) (R (some { av := vB false, obs := [], outs := [] })) (br (e.snd.fst != 1) (br (e.snd.fst != 2) (R (some { av := vB false, obs := [], outs := [] })) (br (!ptrOk e.snd.snd.snd.snd.snd.snd.snd.snd.snd.snd.snd.snd.snd.snd.snd.snd.snd.snd.snd.snd.snd.snd.snd.snd.snd.snd.snd.fst e.snd.snd.snd.snd.snd.snd.snd.snd.snd.snd.snd.snd.snd.snd.snd.snd.snd.snd.snd.snd.snd.snd.snd.snd.snd.snd.snd.snd.fst e.snd.snd.snd.snd.snd.snd.snd.snd.snd.snd.snd.snd.snd.snd.snd.snd.snd.snd.snd.snd.snd.snd.snd.snd.snd.snd.snd.snd.snd.fst) (R (some { av := vB false, obs := [], outs := [] })) (R (some { av := vB !anyB (mps e).length fun i => !pOk (atP (mps e) i), obs := [], outs := [] })))) (br (!ptrOk e.snd.snd.snd.snd.snd.snd.snd.snd.snd.snd.snd.snd.snd.snd.snd.snd.snd.snd.snd.snd.snd.snd.snd.snd.snd.snd.snd.fst e.snd.snd.snd.snd.snd.snd.snd.snd.snd.snd.snd.snd.snd.snd.snd.snd.snd.snd.snd.snd.snd.snd.snd.snd.snd.snd.snd.snd.fst e.snd.snd.snd.snd.snd.snd.snd.snd.snd.snd.snd.snd.snd.snd.snd.snd.snd.snd.snd.snd.snd.snd.snd.snd.snd.snd.snd.snd.snd.fst) (R (some { av := vB false, obs := [], outs := [] })) (R (some { av := vB !anyB (mps e).length fun i => !pOk (atP (mps e) i), obs := [], outs := [] }))))) False) (br (e.snd.fst != 1) (br (e.snd.fst != 2) (R (some { av := vB false, obs := [], outs := [] })) (br (!ptrOk e.snd.snd.snd.snd.snd.snd.snd.snd.snd.snd.snd.snd.snd.snd.snd.snd.snd.snd.snd.snd.snd.snd.snd.snd.snd.snd.snd.fst e.snd.snd.snd.snd.snd.snd.snd.snd.snd.snd.snd.snd.snd.snd.snd.snd.snd.snd.snd.snd.snd.snd.snd.snd.snd.snd.snd.snd.fst e.snd.snd.snd.snd.snd.snd.snd.snd.snd.snd.snd.snd.snd.snd.snd.snd.snd.snd.snd.snd.snd.snd.snd.snd.snd.snd.snd.snd.snd.fst) (R (some { av := vB false, obs := [], outs := [] })) (R (some { av := vB !anyB (mps e).length fun i => !pOk (atP (mps e) i), obs := [], outs := [] })))) (br (!ptrOk e.snd.snd.snd.snd.snd.snd.snd.snd.snd.snd.snd.snd.snd.snd.snd.snd.snd.snd.snd.snd.snd.snd.snd.snd.snd.snd.snd.fst e.snd.snd.snd.snd.snd.snd.snd.snd.snd.snd.snd.snd.snd.snd.snd.snd.snd.snd.snd.snd.snd.snd.snd.snd.snd.snd.snd.snd.fst e.snd.snd.snd.snd.snd.snd.snd.snd.snd.snd.snd.snd.snd.snd.snd.snd.snd.snd.snd.snd.snd.snd.snd.snd.snd.snd.snd.snd.snd.fst) (R (some { av := vB false, obs := [], outs := [] })) (R (some { av := vB !anyB (mps e).length fun i => !pOk (atP (mps e) i), obs := [], outs := [] })))))) False) := by kernel_rfl
theorem any8p (e : Elem kc) : (anyB (mps e).length fun j => !pOk (atP (mps e) j)) = !allB 8 fun j => pOk (atP (mps e) j) := by
  rw [anyB_all]
  congr 1
  refine allB_congr fun j hj => ?_
  rw [Bool.not_not]
theorem h134 : G1Ok Tryz.prog 134 g108 := by
  intro args obs k h
  unfold g108 at h
  split at h
  · rename_i k us
    split at h
    rotate_left
    · exact h.elim
    rename_i e he
    obtain rfl := elemOf_inv he
    obtain ⟨hs, h⟩ := br_and h
    unfold smC at hs
    rw [Bool.and_eq_true] at hs
    refine ⟨_, ctr_fn okf hg134 Tryz.func134 (by kernel_rfl) (by kernel_rfl) (by kernel_rfl) fun C => ?_, h⟩
    show bodyP Ef G134 _ Tryz.f134 [.agg (setK e)] [] _
    rw [e134]
    refine br_t hs.1 (br_not (fun h1 => ?_) (fun h1 => (fun (tail : (strEq e.2.2.1 ⟨#[]⟩ || nameOk e.2.2.1) = true → _) => br_not (fun h2 => br_t hs.2 (br_not (fun h3 => ?_) (fun h3 => tail ?_))) (fun h2 => tail ?_)) (fun hf => ?_)))
    · show _ = _
      rw [setV_n h1]
    · show _ = _
      rw [setV_f (by rw [h2, h3]; rfl)]
    · rw [h3, Bool.or_true]
    · rw [h2, Bool.true_or]
    refine (fun (tail : (e.2.1 == 1 || e.2.1 == 2) = true → _) => br_bne (fun h5 => br_bne (fun h6 => ?_) (fun h6 => tail ?_)) (fun h5 => tail ?_)) (fun hk => br_not (fun h6 => ?_) (fun h6 => ?_))
    · show _ = _
      rw [setV_k (by rw [h5, h6]; rfl)]
    · rw [h6, Bool.or_true]
    · rw [h5, Bool.true_or]
    · show _ = _
      rw [setV_h h6]
    · show _ = _
      rw [any8p, Bool.not_not]
      cases h7 : allB 8 fun j => pOk (atP (mps e) j) with
      | false => rw [setV_b h7]
      | true => rw [setV_t h1 hf hk h6 h7]
  · exact h.elim
end Go.Proofs.YtkjnijddbiconaaGreatDoor.Ev
