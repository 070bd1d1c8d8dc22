/- The law of BookOk. -/
import Derived.Test.YtkjnijddbiconaaDoorD14
namespace Go.Proofs.YtkjnijddbiconaaDoor.Ev
open Go
set_option linter.unusedVariables false
set_option linter.unusedSimpArgs false
set_option maxRecDepth 100000
def set1 (xs : List (Elem kb)) (i : Nat) : Bool := nameOk (atB xs i).1 && (i == 0 || strLt (atB xs (i - 1)).1 (atB xs i).1) && ((atB xs i).2.1 == 1 || (atB xs i).2.1 == 2) && allB 8 fun j => decide (((at1 (bks (atB xs i)) j).size : Int) ≤ 24)
def bookOk (xs : List (Elem kb)) : Bool := decide ((xs.length : Int) ≤ 6) && (allB xs.length (set1 xs) && allB xs.length fun i => rtB xs (xs.length + 1) (atB xs i))
def smB (xs : List (Elem kb)) : Bool := decide (xs.length ≤ 1048576) && xs.all fun e => decide (e.1.size ≤ 1048576)
def g19 : G1
  | [.agg [.rsl [.str, .int .i64, .str, .str, .str, .str, .str, .str, .str, .str, .str] xs]], [], k => br (smB xs) (k ⟨.val (.bool (bookOk xs)), [], []⟩) False
  | _, _, _ => False
def g64 : G1
  | [.agg us, .rpt [.rsl [.str, .int .i64, .str, .str, .str, .str, .str, .str, .str, .str, .str] xs]], [], k => match elemOf kb us with
    | some s => br (decide (xs.length ≤ 1048576)) (k ⟨.val (.bool (!ldB xs xs.length s)), [], []⟩) False
    | none => False
  | _, _, _ => False
def g89b : G1
  | [.rsl [.str, .int .i64, .str, .str, .str, .str, .str, .str, .str, .str, .str] xs, .fn 64 [.rpt [.rsl [.str, .int .i64, .str, .str, .str, .str, .str, .str, .str, .str, .str] ys]]], [], k => br (decide (xs.length ≤ 1048576) && decide (ys.length ≤ 1048576)) (k ⟨.val (.int .i64 (fIx xs.length fun i => !ldB ys ys.length (atB xs i))), [], []⟩) False
  | _, _, _ => False
def g63 : G1
  | [.rsl [.str, .int .i64, .str, .str, .str, .str, .str, .str, .str, .str, .str] xs, .fn 64 [.rpt [.rsl [.str, .int .i64, .str, .str, .str, .str, .str, .str, .str, .str, .str] ys]]], [], k => br (decide (xs.length ≤ 1048576) && decide (ys.length ≤ 1048576)) (k ⟨.val (.bool (anyB xs.length fun i => !ldB ys ys.length (atB xs i))), [], []⟩) False
  | _, _, _ => False
noncomputable def G64 : Gk := gk [(65, g65)]
theorem hg64 : HG Tryd.prog G64 := (hg_cons h65 hg_nil)
theorem e64 (L : Lp) (R : Option Res → Prop) (e : Elem kb) (xs : List (Elem kb)) : (bodyP Ef G64 L Tryd.f64 [.agg (setC e), .rpt [.rsl kb xs]] [] R) = (
    br (decide (xs.length ≤ 1048576)) (R (some { av := vB !ldB xs xs.length e, obs := [], outs := [] })) False) := by kernel_rfl
theorem h64 : G1Ok Tryd.prog 64 g64 := by
  intro args obs k h
  unfold g64 at h
  split at h
  · rename_i k us xs
    split at h
    rotate_left
    · exact h.elim
    rename_i s hs
    obtain rfl := elemOf_inv hs
    obtain ⟨hl, h⟩ := br_and h
    refine ⟨_, ctr_fn okf hg64 Tryd.func64 (by kernel_rfl) (by kernel_rfl) (by kernel_rfl) fun C => ?_, h⟩
    show bodyP Ef G64 _ Tryd.f64 [.agg (setC s), .rpt [.rsl kb xs]] [] _
    rw [e64]
    exact br_t hl rfl
  · exact h.elim
noncomputable def E89b : Env := Ef.of Tryd.f89
noncomputable def G89b : Gk := gk [(64, g64)]
noncomputable def lp89b (n : Nat) : Code := (loopOf n (codeOf Tryd.f89)).getD .skip
noncomputable def ct89b (L : Lp) (R : Option Res → Prop) (n : Nat) : Kt := contOf E89b G89b L n (codeOf Tryd.f89) (endK E89b Tryd.f89.results.toList R)
noncomputable def rk89b (L : Lp) (R : Option Res → Prop) (n : Nat) (N : St → Prop) : Kt := rk (jof E89b (lp89b n)) N (ct89b L R n)
noncomputable def LOOP89b (L : Lp) (R : Option Res → Prop) (n : Nat) (st : St) : Prop := L (lp89b n) st (ct89b L R n)
theorem hg89b : HG Tryd.prog G89b := (hg_cons h64 hg_nil)
theorem okf89b : Ok Tryd.prog E89b := okf.of Tryd.f89
theorem e89b (L : Lp) (R : Option Res → Prop) (xs ys : List (Elem kb)) : (bodyP Ef G89b L Tryd.f89 [.rsl kb xs, .fn 64 [.rpt [.rsl kb ys]]] [] R) = (
    LOOP89b L R 2 { tm := [AV.rsl kb xs, AV.fn 64 [AV.rpt [AV.rsl kb ys]], vJ, vJ, vJ, vJ, vJ, vI (↑xs.length : Int), vI 0, vJ, vJ, vJ, vJ, vJ, vJ, vJ, vJ, vJ, vJ], ob := [], nx := 1000000, ps := [] }) := by kernel_rfl
def st89b (xs ys : List (Elem kb)) (i : Int) : St :=  ⟨[AV.rsl kb xs, AV.fn 64 [AV.rpt [AV.rsl kb ys]], vJ, vJ, vJ, vJ, vJ, vI (↑xs.length : Int), .val (.int .i64 i), vJ, vJ, vJ, vJ, vJ, vJ, vJ, vJ, vJ, vJ], [], 1000000, []⟩
theorem b89b (L : Lp) (R : Option Res → Prop) (N : St → Prop) (xs ys : List (Elem kb)) (i : Int) : (evP E89b G89b L (lp89b 2) (st89b xs ys i) (rk89b L R 2 N)) = (
    br (decide (i < (↑xs.length : Int))) (br (decide (0 ≤ i ∧ i < (↑xs.length : Int))) (br (decide (ys.length ≤ 1048576)) (br (!ldB ys ys.length (xs.getD i.toNat (edflt kb))) (R (some { av := vI i, obs := [], outs := [] })) (N { tm := [AV.rsl kb xs, AV.fn 64 [AV.rpt [AV.rsl kb ys]], vJ, vJ, vJ, vJ, vJ, vI (↑xs.length : Int), vI (IntKind.i64.wrap (i + 1)), vJ, vJ, vJ, vJ, vJ, vJ, vJ, vJ, vJ, vJ], ob := [], nx := 1000000, ps := [] })) False) False) (R (some { av := vI (-1), obs := [], outs := [] }))) := by kernel_rfl
theorem h89b : G1Ok Tryd.prog 89 g89b := by
  intro args obs k h
  unfold g89b at h
  split at h
  · rename_i k xs ys
    obtain ⟨hl, hm, h⟩ := brb2 h
    have hl' := of_decide_eq_true hl
    refine ⟨_, ctr_fn okf hg89b Tryd.func89 (by kernel_rfl) (by kernel_rfl) (by kernel_rfl) fun C => ?_, h⟩
    rw [e89b]
    refine loopFind okf89b hg89b (fun i => st89b xs ys i) xs.length (fun i => !ldB ys ys.length (atB xs i)) (by omega) (fun N i hi hw next found none => ?_)
    show evP E89b G89b _ (lp89b 2) (st89b xs ys i) (rk89b _ _ 2 _)
    rw [b89b, hw, Int.toNat_natCast]
    refine br_dec (fun h2 => br_yes ⟨by omega, h2⟩ (br_t hm (br_intro (fun h3 => ?_) (fun h3 => ?_)))) (fun h2 => ?_)
    · show _ = _
      rw [found (by omega) h3]
    · exact next (by omega) h3
    · show _ = _
      rw [none (by omega)]
  · exact h.elim
noncomputable def G63 : Gk := gk [(89, g89b)]
theorem hg63 : HG Tryd.prog G63 := (hg_cons h89b hg_nil)
theorem e63 (L : Lp) (R : Option Res → Prop) (xs ys : List (Elem kb)) : (bodyP Ef G63 L Tryd.f63 [.rsl kb xs, .fn 64 [.rpt [.rsl kb ys]]] [] R) = (
    br (decide (xs.length ≤ 1048576) && decide (ys.length ≤ 1048576)) (R (some { av := vB (decide ((fIx xs.length fun i => !ldB ys ys.length (atB xs i)) ≥ 0)), obs := [], outs := [] })) False) := by kernel_rfl
theorem h63 : G1Ok Tryd.prog 63 g63 := by
  intro args obs k h
  unfold g63 at h
  split at h
  · rename_i k xs ys
    obtain ⟨hl, h⟩ := br_and h
    refine ⟨_, ctr_fn okf hg63 Tryd.func63 (by kernel_rfl) (by kernel_rfl) (by kernel_rfl) fun C => ?_, h⟩
    rw [e63]
    refine br_t hl ?_
    show _ = _
    rw [fIx_ge]
  · exact h.elim
noncomputable def E19 : Env := Ef.of Tryd.f19
noncomputable def G19 : Gk := gk [(43, g43), (44, g44)]
noncomputable def lp19 (n : Nat) : Code := (loopOf n (codeOf Tryd.f19)).getD .skip
noncomputable def ct19 (L : Lp) (R : Option Res → Prop) (n : Nat) : Kt := contOf E19 G19 L n (codeOf Tryd.f19) (endK E19 Tryd.f19.results.toList R)
noncomputable def rk19 (L : Lp) (R : Option Res → Prop) (n : Nat) (N : St → Prop) : Kt := rk (jof E19 (lp19 n)) N (ct19 L R n)
noncomputable def rkn19 (L : Lp) (R : Option Res → Prop) (n : Nat) (N : St → Prop) (m : Nat) (N2 : St → Prop) : Kt := rk (jof E19 (lp19 m)) N2 (contOf E19 G19 L m (lp19 n) (rk19 L R n N))
noncomputable def LOOPN19 (L : Lp) (R : Option Res → Prop) (n : Nat) (N : St → Prop) (m : Nat) (st : St) : Prop := L (lp19 m) st (contOf E19 G19 L m (lp19 n) (rk19 L R n N))
noncomputable def LOOP19 (L : Lp) (R : Option Res → Prop) (n : Nat) (st : St) : Prop := L (lp19 n) st (ct19 L R n)
theorem hg19 : HG Tryd.prog G19 := (hg_cons h43 (hg_cons h44 hg_nil))
theorem okf19 : Ok Tryd.prog E19 := okf.of Tryd.f19
theorem e19 (L : Lp) (R : Option Res → Prop) (xs : List (Elem kb)) : (bodyP Ef G19 L Tryd.f19 [.agg [.rsl kb xs]] [] R) = (
    br (decide ((↑xs.length : Int) > 6)) (R (some { av := vB false, obs := [], outs := [] })) (LOOP19 L R 4 { tm := [vJ, AV.ptr 0 0, vJ, vI 0, vJ, vJ, vJ, vJ, vJ, vJ, vJ, vJ, vJ, vJ, vJ, vJ, vJ, vJ, vJ, vJ, vJ, vJ, vJ, vJ, vJ, vJ, vJ, vJ, vJ, vJ, vJ, vJ, vJ, vJ, vJ, vJ, vJ, vJ, vJ, vJ, vJ, vJ, vJ, vJ, vJ, vJ, vJ, vJ, vJ, vJ, vJ, vJ, vJ, vJ, vJ, vJ, vJ, vJ, vJ, vJ, vJ, vJ, vJ, vJ, vJ, vJ, vJ, vJ, vJ, vJ, vJ, vJ, vJ, vJ, vJ, vJ, vJ, vJ], ob := [(0, AO.box [AV.rsl kb xs])], nx := 1000000, ps := [] })) := by kernel_rfl
def st19 (xs : List (Elem kb)) (i : Int) : St :=  ⟨[vJ, AV.ptr 0 0, vJ, .val (.int .i64 i), vJ, vJ, vJ, vJ, vJ, vJ, vJ, vJ, vJ, vJ, vJ, vJ, vJ, vJ, vJ, vJ, vJ, vJ, vJ, vJ, vJ, vJ, vJ, vJ, vJ, vJ, vJ, vJ, vJ, vJ, vJ, vJ, vJ, vJ, vJ, vJ, vJ, vJ, vJ, vJ, vJ, vJ, vJ, vJ, vJ, vJ, vJ, vJ, vJ, vJ, vJ, vJ, vJ, vJ, vJ, vJ, vJ, vJ, vJ, vJ, vJ, vJ, vJ, vJ, vJ, vJ, vJ, vJ, vJ, vJ, vJ, vJ, vJ, vJ], [(0, AO.box [AV.rsl kb xs])], 1000000, []⟩
theorem b19 (L : Lp) (R : Option Res → Prop) (N : St → Prop) (xs : List (Elem kb)) (i : Int) : (evP E19 G19 L (lp19 4) (st19 xs i) (rk19 L R 4 N)) = (
    br (decide (i < (↑xs.length : Int))) (br (decide (0 ≤ i ∧ i < (↑xs.length : Int))) (br (decide (ByteArray.size (xs.getD i.toNat (edflt kb)).fst ≤ 1048576)) (br (!nameOk (xs.getD i.toNat (edflt kb)).fst) (R (some { av := vB false, obs := [], outs := [] })) (br (decide (i > 0)) (br (decide (0 ≤ IntKind.i64.wrap (i - 1) ∧ IntKind.i64.wrap (i - 1) < (↑xs.length : Int))) (br (strLt (xs.getD i.toNat (edflt kb)).fst (xs.getD (IntKind.i64.wrap (i - 1)).toNat (edflt kb)).fst || strEq (xs.getD i.toNat (edflt kb)).fst (xs.getD (IntKind.i64.wrap (i - 1)).toNat (edflt kb)).fst) (R (some { av := vB false, obs := [], outs := [] })) (br (decide ((xs.getD i.toNat (edflt kb)).snd.fst < 1)) (R (some { av := vB false, obs := [], outs := [] })) (br (decide ((xs.getD i.toNat (edflt kb)).snd.fst > 2)) (R (some { av := vB false, obs := [], outs := [] })) (LOOPN19 L R 4 N 10 { tm := [vJ, AV.ptr 0 0, vJ, vI i, AV.ptr 1 0, vI 0, vJ, vJ, vJ, vJ, vJ, vJ, vJ, vJ, vJ, vJ, vJ, vJ, vJ, vJ, vJ, vJ, vJ, vJ, vJ, vJ, vJ, vJ, vJ, vJ, vJ, vJ, vJ, vJ, vJ, vJ, vJ, vJ, vJ, vJ, vJ, vJ, vJ, vJ, vJ, vJ, vJ, vJ, vJ, vJ, vJ, vJ, vJ, vJ, vJ, vJ, vJ, vJ, vJ, vJ, vJ, vJ, vJ, vJ, vJ, vJ, vJ, vJ, vJ, vJ, vJ, vJ, vJ, vJ, vJ, vJ, vJ, vJ], ob := [(0, AO.box [AV.rsl kb xs]), (1, AO.box [vS (xs.getD i.toNat (edflt kb)).fst, vI (xs.getD i.toNat (edflt kb)).snd.fst, vS (xs.getD i.toNat (edflt kb)).snd.snd.fst, vS (xs.getD i.toNat (edflt kb)).snd.snd.snd.fst, vS (xs.getD i.toNat (edflt kb)).snd.snd.snd.snd.fst, vS (xs.getD i.toNat (edflt kb)).snd.snd.snd.snd.snd.fst, vS (xs.getD i.toNat (edflt kb)).snd.snd.snd.snd.snd.snd.fst, vS (xs.getD i.toNat (edflt kb)).snd.snd.snd.snd.snd.snd.snd.fst, vS (xs.getD i.toNat (edflt kb)).snd.snd.snd.snd.snd.snd.snd.snd.fst, vS (xs.getD i.toNat (edflt kb)).snd.snd.snd.snd.snd.snd.snd.snd.snd.fst, vS (xs.getD i.toNat (edflt kb)).snd.snd.snd.snd.snd.snd.snd.snd.snd.snd.fst])], nx := 1000000, ps := [] })))) False) (br (decide ((xs.getD i.toNat (edflt kb)).snd.fst < 1)) (R (some { av := vB false, obs := [], outs := [] })) (br (decide ((xs.getD i.toNat (edflt kb)).snd.fst > 2)) (R (some { av := vB false, obs := [], outs := [] })) (LOOPN19 L R 4 N 10 { tm := [vJ, AV.ptr 0 0, vJ, vI i, AV.ptr 1 0, vI 0, vJ, vJ, vJ, vJ, vJ, vJ, vJ, vJ, vJ, vJ, vJ, vJ, vJ, vJ, vJ, vJ, vJ, vJ, vJ, vJ, vJ, vJ, vJ, vJ, vJ, vJ, vJ, vJ, vJ, vJ, vJ, vJ, vJ, vJ, vJ, vJ, vJ, vJ, vJ, vJ, vJ, vJ, vJ, vJ, vJ, vJ, vJ, vJ, vJ, vJ, vJ, vJ, vJ, vJ, vJ, vJ, vJ, vJ, vJ, vJ, vJ, vJ, vJ, vJ, vJ, vJ, vJ, vJ, vJ, vJ, vJ, vJ], ob := [(0, AO.box [AV.rsl kb xs]), (1, AO.box [vS (xs.getD i.toNat (edflt kb)).fst, vI (xs.getD i.toNat (edflt kb)).snd.fst, vS (xs.getD i.toNat (edflt kb)).snd.snd.fst, vS (xs.getD i.toNat (edflt kb)).snd.snd.snd.fst, vS (xs.getD i.toNat (edflt kb)).snd.snd.snd.snd.fst, vS (xs.getD i.toNat (edflt kb)).snd.snd.snd.snd.snd.fst, vS (xs.getD i.toNat (edflt kb)).snd.snd.snd.snd.snd.snd.fst, vS (xs.getD i.toNat (edflt kb)).snd.snd.snd.snd.snd.snd.snd.fst, vS (xs.getD i.toNat (edflt kb)).snd.snd.snd.snd.snd.snd.snd.snd.fst, vS (xs.getD i.toNat (edflt kb)).snd.snd.snd.snd.snd.snd.snd.snd.snd.fst, vS (xs.getD i.toNat (edflt kb)).snd.snd.snd.snd.snd.snd.snd.snd.snd.snd.fst])], nx := 1000000, ps := [] }))))) False) False) (LOOP19 L R 15 { tm := [vJ, AV.ptr 0 0, vJ, vJ, vJ, vJ, vI 0, vJ, vJ, vJ, vJ, vJ, vJ, vJ, vJ, vJ, vJ, vJ, vJ, vJ, vJ, vJ, vJ, vJ, vJ, vJ, vJ, vJ, vJ, vJ, vJ, vJ, vJ, vJ, vJ, vJ, vJ, vJ, vJ, vJ, vJ, vJ, vJ, vJ, vJ, vJ, vJ, vJ, vJ, vJ, vJ, vJ, vJ, vJ, vJ, vJ, vJ, vJ, vJ, vJ, vJ, vJ, vJ, vJ, vJ, vJ, vJ, vJ, vJ, vJ, vJ, vJ, vJ, vJ, vJ, vJ, vJ, vJ], ob := [(0, AO.box [AV.rsl kb xs])], nx := 1000000, ps := [] })) := by kernel_rfl
def si19 (xs : List (Elem kb)) (q : Int) (e : Elem kb) (j : Int) : St :=  ⟨[vJ, AV.ptr 0 0, vJ, .val (.int .i64 q), AV.ptr 1 0, .val (.int .i64 j), vJ, vJ, vJ, vJ, vJ, vJ, vJ, vJ, vJ, vJ, vJ, vJ, vJ, vJ, vJ, vJ, vJ, vJ, vJ, vJ, vJ, vJ, vJ, vJ, vJ, vJ, vJ, vJ, vJ, vJ, vJ, vJ, vJ, vJ, vJ, vJ, vJ, vJ, vJ, vJ, vJ, vJ, vJ, vJ, vJ, vJ, vJ, vJ, vJ, vJ, vJ, vJ, vJ, vJ, vJ, vJ, vJ, vJ, vJ, vJ, vJ, vJ, vJ, vJ, vJ, vJ, vJ, vJ, vJ, vJ, vJ, vJ], [(0, AO.box [AV.rsl kb xs]), (1, .box (setC e))], 1000000, []⟩
theorem bi19_0 (L : Lp) (R : Option Res → Prop) (N N2 : St → Prop) (xs : List (Elem kb)) (q : Int) (e : Elem kb) : (evP E19 G19 L (lp19 10) (si19 xs q e 0) (rkn19 L R 4 N 10 N2)) = (
    br (decide ((↑(ByteArray.size e.snd.snd.snd.fst) : Int) > 24)) (R (some { av := vB false, obs := [], outs := [] })) (N2 { tm := [vJ, AV.ptr 0 0, vJ, vI q, AV.ptr 1 0, vI 1, vJ, vJ, vJ, vJ, vJ, vJ, vJ, vJ, vJ, vJ, vJ, vJ, vJ, vJ, vJ, vJ, vJ, vJ, vJ, vJ, vJ, vJ, vJ, vJ, vJ, vJ, vJ, vJ, vJ, vJ, vJ, vJ, vJ, vJ, vJ, vJ, vJ, vJ, vJ, vJ, vJ, vJ, vJ, vJ, vJ, vJ, vJ, vJ, vJ, vJ, vJ, vJ, vJ, vJ, vJ, vJ, vJ, vJ, vJ, vJ, vJ, vJ, vJ, vJ, vJ, vJ, vJ, vJ, vJ, vJ, vJ, vJ], ob := [(0, AO.box [AV.rsl kb xs]), (1, AO.box [vS e.fst, vI e.snd.fst, vS e.snd.snd.fst, vS e.snd.snd.snd.fst, vS e.snd.snd.snd.snd.fst, vS e.snd.snd.snd.snd.snd.fst, vS e.snd.snd.snd.snd.snd.snd.fst, vS e.snd.snd.snd.snd.snd.snd.snd.fst, vS e.snd.snd.snd.snd.snd.snd.snd.snd.fst, vS e.snd.snd.snd.snd.snd.snd.snd.snd.snd.fst, vS e.snd.snd.snd.snd.snd.snd.snd.snd.snd.snd.fst])], nx := 1000000, ps := [] })) := by kernel_rfl
theorem bi19_1 (L : Lp) (R : Option Res → Prop) (N N2 : St → Prop) (xs : List (Elem kb)) (q : Int) (e : Elem kb) : (evP E19 G19 L (lp19 10) (si19 xs q e 1) (rkn19 L R 4 N 10 N2)) = (
    br (decide ((↑(ByteArray.size e.snd.snd.snd.snd.fst) : Int) > 24)) (R (some { av := vB false, obs := [], outs := [] })) (N2 { tm := [vJ, AV.ptr 0 0, vJ, vI q, AV.ptr 1 0, vI 2, vJ, vJ, vJ, vJ, vJ, vJ, vJ, vJ, vJ, vJ, vJ, vJ, vJ, vJ, vJ, vJ, vJ, vJ, vJ, vJ, vJ, vJ, vJ, vJ, vJ, vJ, vJ, vJ, vJ, vJ, vJ, vJ, vJ, vJ, vJ, vJ, vJ, vJ, vJ, vJ, vJ, vJ, vJ, vJ, vJ, vJ, vJ, vJ, vJ, vJ, vJ, vJ, vJ, vJ, vJ, vJ, vJ, vJ, vJ, vJ, vJ, vJ, vJ, vJ, vJ, vJ, vJ, vJ, vJ, vJ, vJ, vJ], ob := [(0, AO.box [AV.rsl kb xs]), (1, AO.box [vS e.fst, vI e.snd.fst, vS e.snd.snd.fst, vS e.snd.snd.snd.fst, vS e.snd.snd.snd.snd.fst, vS e.snd.snd.snd.snd.snd.fst, vS e.snd.snd.snd.snd.snd.snd.fst, vS e.snd.snd.snd.snd.snd.snd.snd.fst, vS e.snd.snd.snd.snd.snd.snd.snd.snd.fst, vS e.snd.snd.snd.snd.snd.snd.snd.snd.snd.fst, vS e.snd.snd.snd.snd.snd.snd.snd.snd.snd.snd.fst])], nx := 1000000, ps := [] })) := by kernel_rfl
theorem bi19_2 (L : Lp) (R : Option Res → Prop) (N N2 : St → Prop) (xs : List (Elem kb)) (q : Int) (e : Elem kb) : (evP E19 G19 L (lp19 10) (si19 xs q e 2) (rkn19 L R 4 N 10 N2)) = (
    br (decide ((↑(ByteArray.size e.snd.snd.snd.snd.snd.fst) : Int) > 24)) (R (some { av := vB false, obs := [], outs := [] })) (N2 { tm := [vJ, AV.ptr 0 0, vJ, vI q, AV.ptr 1 0, vI 3, vJ, vJ, vJ, vJ, vJ, vJ, vJ, vJ, vJ, vJ, vJ, vJ, vJ, vJ, vJ, vJ, vJ, vJ, vJ, vJ, vJ, vJ, vJ, vJ, vJ, vJ, vJ, vJ, vJ, vJ, vJ, vJ, vJ, vJ, vJ, vJ, vJ, vJ, vJ, vJ, vJ, vJ, vJ, vJ, vJ, vJ, vJ, vJ, vJ, vJ, vJ, vJ, vJ, vJ, vJ, vJ, vJ, vJ, vJ, vJ, vJ, vJ, vJ, vJ, vJ, vJ, vJ, vJ, vJ, vJ, vJ, vJ], ob := [(0, AO.box [AV.rsl kb xs]), (1, AO.box [vS e.fst, vI e.snd.fst, vS e.snd.snd.fst, vS e.snd.snd.snd.fst, vS e.snd.snd.snd.snd.fst, vS e.snd.snd.snd.snd.snd.fst, vS e.snd.snd.snd.snd.snd.snd.fst, vS e.snd.snd.snd.snd.snd.snd.snd.fst, vS e.snd.snd.snd.snd.snd.snd.snd.snd.fst, vS e.snd.snd.snd.snd.snd.snd.snd.snd.snd.fst, vS e.snd.snd.snd.snd.snd.snd.snd.snd.snd.snd.fst])], nx := 1000000, ps := [] })) := by kernel_rfl
theorem bi19_3 (L : Lp) (R : Option Res → Prop) (N N2 : St → Prop) (xs : List (Elem kb)) (q : Int) (e : Elem kb) : (evP E19 G19 L (lp19 10) (si19 xs q e 3) (rkn19 L R 4 N 10 N2)) = (
    br (decide ((↑(ByteArray.size e.snd.snd.snd.snd.snd.snd.fst) : Int) > 24)) (R (some { av := vB false, obs := [], outs := [] })) (N2 { tm := [vJ, AV.ptr 0 0, vJ, vI q, AV.ptr 1 0, vI 4, vJ, vJ, vJ, vJ, vJ, vJ, vJ, vJ, vJ, vJ, vJ, vJ, vJ, vJ, vJ, vJ, vJ, vJ, vJ, vJ, vJ, vJ, vJ, vJ, vJ, vJ, vJ, vJ, vJ, vJ, vJ, vJ, vJ, vJ, vJ, vJ, vJ, vJ, vJ, vJ, vJ, vJ, vJ, vJ, vJ, vJ, vJ, vJ, vJ, vJ, vJ, vJ, vJ, vJ, vJ, vJ, vJ, vJ, vJ, vJ, vJ, vJ, vJ, vJ, vJ, vJ, vJ, vJ, vJ, vJ, vJ, vJ], ob := [(0, AO.box [AV.rsl kb xs]), (1, AO.box [vS e.fst, vI e.snd.fst, vS e.snd.snd.fst, vS e.snd.snd.snd.fst, vS e.snd.snd.snd.snd.fst, vS e.snd.snd.snd.snd.snd.fst, vS e.snd.snd.snd.snd.snd.snd.fst, vS e.snd.snd.snd.snd.snd.snd.snd.fst, vS e.snd.snd.snd.snd.snd.snd.snd.snd.fst, vS e.snd.snd.snd.snd.snd.snd.snd.snd.snd.fst, vS e.snd.snd.snd.snd.snd.snd.snd.snd.snd.snd.fst])], nx := 1000000, ps := [] })) := by kernel_rfl
theorem bi19_4 (L : Lp) (R : Option Res → Prop) (N N2 : St → Prop) (xs : List (Elem kb)) (q : Int) (e : Elem kb) : (evP E19 G19 L (lp19 10) (si19 xs q e 4) (rkn19 L R 4 N 10 N2)) = (
    br (decide ((↑(ByteArray.size e.snd.snd.snd.snd.snd.snd.snd.fst) : Int) > 24)) (R (some { av := vB false, obs := [], outs := [] })) (N2 { tm := [vJ, AV.ptr 0 0, vJ, vI q, AV.ptr 1 0, vI 5, vJ, vJ, vJ, vJ, vJ, vJ, vJ, vJ, vJ, vJ, vJ, vJ, vJ, vJ, vJ, vJ, vJ, vJ, vJ, vJ, vJ, vJ, vJ, vJ, vJ, vJ, vJ, vJ, vJ, vJ, vJ, vJ, vJ, vJ, vJ, vJ, vJ, vJ, vJ, vJ, vJ, vJ, vJ, vJ, vJ, vJ, vJ, vJ, vJ, vJ, vJ, vJ, vJ, vJ, vJ, vJ, vJ, vJ, vJ, vJ, vJ, vJ, vJ, vJ, vJ, vJ, vJ, vJ, vJ, vJ, vJ, vJ], ob := [(0, AO.box [AV.rsl kb xs]), (1, AO.box [vS e.fst, vI e.snd.fst, vS e.snd.snd.fst, vS e.snd.snd.snd.fst, vS e.snd.snd.snd.snd.fst, vS e.snd.snd.snd.snd.snd.fst, vS e.snd.snd.snd.snd.snd.snd.fst, vS e.snd.snd.snd.snd.snd.snd.snd.fst, vS e.snd.snd.snd.snd.snd.snd.snd.snd.fst, vS e.snd.snd.snd.snd.snd.snd.snd.snd.snd.fst, vS e.snd.snd.snd.snd.snd.snd.snd.snd.snd.snd.fst])], nx := 1000000, ps := [] })) := by kernel_rfl
theorem bi19_5 (L : Lp) (R : Option Res → Prop) (N N2 : St → Prop) (xs : List (Elem kb)) (q : Int) (e : Elem kb) : (evP E19 G19 L (lp19 10) (si19 xs q e 5) (rkn19 L R 4 N 10 N2)) = (
    br (decide ((↑(ByteArray.size e.snd.snd.snd.snd.snd.snd.snd.snd.fst) : Int) > 24)) (R (some { av := vB false, obs := [], outs := [] })) (N2 { tm := [vJ, AV.ptr 0 0, vJ, vI q, AV.ptr 1 0, vI 6, vJ, vJ, vJ, vJ, vJ, vJ, vJ, vJ, vJ, vJ, vJ, vJ, vJ, vJ, vJ, vJ, vJ, vJ, vJ, vJ, vJ, vJ, vJ, vJ, vJ, vJ, vJ, vJ, vJ, vJ, vJ, vJ, vJ, vJ, vJ, vJ, vJ, vJ, vJ, vJ, vJ, vJ, vJ, vJ, vJ, vJ, vJ, vJ, vJ, vJ, vJ, vJ, vJ, vJ, vJ, vJ, vJ, vJ, vJ, vJ, vJ, vJ, vJ, vJ, vJ, vJ, vJ, vJ, vJ, vJ, vJ, vJ], ob := [(0, AO.box [AV.rsl kb xs]), (1, AO.box [vS e.fst, vI e.snd.fst, vS e.snd.snd.fst, vS e.snd.snd.snd.fst, vS e.snd.snd.snd.snd.fst, vS e.snd.snd.snd.snd.snd.fst, vS e.snd.snd.snd.snd.snd.snd.fst, vS e.snd.snd.snd.snd.snd.snd.snd.fst, vS e.snd.snd.snd.snd.snd.snd.snd.snd.fst, vS e.snd.snd.snd.snd.snd.snd.snd.snd.snd.fst, vS e.snd.snd.snd.snd.snd.snd.snd.snd.snd.snd.fst])], nx := 1000000, ps := [] })) := by kernel_rfl
theorem bi19_6 (L : Lp) (R : Option Res → Prop) (N N2 : St → Prop) (xs : List (Elem kb)) (q : Int) (e : Elem kb) : (evP E19 G19 L (lp19 10) (si19 xs q e 6) (rkn19 L R 4 N 10 N2)) = (
    br (decide ((↑(ByteArray.size e.snd.snd.snd.snd.snd.snd.snd.snd.snd.fst) : Int) > 24)) (R (some { av := vB false, obs := [], outs := [] })) (N2 { tm := [vJ, AV.ptr 0 0, vJ, vI q, AV.ptr 1 0, vI 7, vJ, vJ, vJ, vJ, vJ, vJ, vJ, vJ, vJ, vJ, vJ, vJ, vJ, vJ, vJ, vJ, vJ, vJ, vJ, vJ, vJ, vJ, vJ, vJ, vJ, vJ, vJ, vJ, vJ, vJ, vJ, vJ, vJ, vJ, vJ, vJ, vJ, vJ, vJ, vJ, vJ, vJ, vJ, vJ, vJ, vJ, vJ, vJ, vJ, vJ, vJ, vJ, vJ, vJ, vJ, vJ, vJ, vJ, vJ, vJ, vJ, vJ, vJ, vJ, vJ, vJ, vJ, vJ, vJ, vJ, vJ, vJ], ob := [(0, AO.box [AV.rsl kb xs]), (1, AO.box [vS e.fst, vI e.snd.fst, vS e.snd.snd.fst, vS e.snd.snd.snd.fst, vS e.snd.snd.snd.snd.fst, vS e.snd.snd.snd.snd.snd.fst, vS e.snd.snd.snd.snd.snd.snd.fst, vS e.snd.snd.snd.snd.snd.snd.snd.fst, vS e.snd.snd.snd.snd.snd.snd.snd.snd.fst, vS e.snd.snd.snd.snd.snd.snd.snd.snd.snd.fst, vS e.snd.snd.snd.snd.snd.snd.snd.snd.snd.snd.fst])], nx := 1000000, ps := [] })) := by kernel_rfl
theorem bi19_7 (L : Lp) (R : Option Res → Prop) (N N2 : St → Prop) (xs : List (Elem kb)) (q : Int) (e : Elem kb) : (evP E19 G19 L (lp19 10) (si19 xs q e 7) (rkn19 L R 4 N 10 N2)) = (
    br (decide ((↑(ByteArray.size e.snd.snd.snd.snd.snd.snd.snd.snd.snd.snd.fst) : Int) > 24)) (R (some { av := vB false, obs := [], outs := [] })) (N2 { tm := [vJ, AV.ptr 0 0, vJ, vI q, AV.ptr 1 0, vI 8, vJ, vJ, vJ, vJ, vJ, vJ, vJ, vJ, vJ, vJ, vJ, vJ, vJ, vJ, vJ, vJ, vJ, vJ, vJ, vJ, vJ, vJ, vJ, vJ, vJ, vJ, vJ, vJ, vJ, vJ, vJ, vJ, vJ, vJ, vJ, vJ, vJ, vJ, vJ, vJ, vJ, vJ, vJ, vJ, vJ, vJ, vJ, vJ, vJ, vJ, vJ, vJ, vJ, vJ, vJ, vJ, vJ, vJ, vJ, vJ, vJ, vJ, vJ, vJ, vJ, vJ, vJ, vJ, vJ, vJ, vJ, vJ], ob := [(0, AO.box [AV.rsl kb xs]), (1, AO.box [vS e.fst, vI e.snd.fst, vS e.snd.snd.fst, vS e.snd.snd.snd.fst, vS e.snd.snd.snd.snd.fst, vS e.snd.snd.snd.snd.snd.fst, vS e.snd.snd.snd.snd.snd.snd.fst, vS e.snd.snd.snd.snd.snd.snd.snd.fst, vS e.snd.snd.snd.snd.snd.snd.snd.snd.fst, vS e.snd.snd.snd.snd.snd.snd.snd.snd.snd.fst, vS e.snd.snd.snd.snd.snd.snd.snd.snd.snd.snd.fst])], nx := 1000000, ps := [] })) := by kernel_rfl
theorem bi19_8 (L : Lp) (R : Option Res → Prop) (N N2 : St → Prop) (xs : List (Elem kb)) (q : Int) (e : Elem kb) : (evP E19 G19 L (lp19 10) (si19 xs q e 8) (rkn19 L R 4 N 10 N2)) = (
    N { tm := [vJ, AV.ptr 0 0, vJ, vI (IntKind.i64.wrap (q + 1)), vJ, vJ, vJ, vJ, vJ, vJ, vJ, vJ, vJ, vJ, vJ, vJ, vJ, vJ, vJ, vJ, vJ, vJ, vJ, vJ, vJ, vJ, vJ, vJ, vJ, vJ, vJ, vJ, vJ, vJ, vJ, vJ, vJ, vJ, vJ, vJ, vJ, vJ, vJ, vJ, vJ, vJ, vJ, vJ, vJ, vJ, vJ, vJ, vJ, vJ, vJ, vJ, vJ, vJ, vJ, vJ, vJ, vJ, vJ, vJ, vJ, vJ, vJ, vJ, vJ, vJ, vJ, vJ, vJ, vJ, vJ, vJ, vJ, vJ], ob := [(0, AO.box [AV.rsl kb xs])], nx := 1000000, ps := [] }) := by kernel_rfl
def sr19 (xs : List (Elem kb)) (j : Int) : St :=  ⟨[vJ, AV.ptr 0 0, vJ, vJ, vJ, vJ, .val (.int .i64 j), vJ, vJ, vJ, vJ, vJ, vJ, vJ, vJ, vJ, vJ, vJ, vJ, vJ, vJ, vJ, vJ, vJ, vJ, vJ, vJ, vJ, vJ, vJ, vJ, vJ, vJ, vJ, vJ, vJ, vJ, vJ, vJ, vJ, vJ, vJ, vJ, vJ, vJ, vJ, vJ, vJ, vJ, vJ, vJ, vJ, vJ, vJ, vJ, vJ, vJ, vJ, vJ, vJ, vJ, vJ, vJ, vJ, vJ, vJ, vJ, vJ, vJ, vJ, vJ, vJ, vJ, vJ, vJ, vJ, vJ, vJ], [(0, AO.box [AV.rsl kb xs])], 1000000, []⟩
theorem br19 (L : Lp) (R : Option Res → Prop) (N : St → Prop) (xs : List (Elem kb)) (j : Int) : (evP E19 G19 L (lp19 15) (sr19 xs j) (rk19 L R 15 N)) = (
    br (decide (j < (↑xs.length : Int))) (br (decide (0 ≤ j ∧ j < (↑xs.length : Int))) (br (decide (xs.length ≤ 1048576)) (br (!rtB xs (xs.length + 1) (xs.getD j.toNat (edflt kb))) (R (some { av := vB false, obs := [], outs := [] })) (N { tm := [vJ, AV.ptr 0 0, vJ, vJ, vJ, vJ, vI (IntKind.i64.wrap (j + 1)), vJ, vJ, vJ, vJ, vJ, vJ, vJ, vJ, vJ, vJ, vJ, vJ, vJ, vJ, vJ, vJ, vJ, vJ, vJ, vJ, vJ, vJ, vJ, vJ, vJ, vJ, vJ, vJ, vJ, vJ, vJ, vJ, vJ, vJ, vJ, vJ, vJ, vJ, vJ, vJ, vJ, vJ, vJ, vJ, vJ, vJ, vJ, vJ, vJ, vJ, vJ, vJ, vJ, vJ, vJ, vJ, vJ, vJ, vJ, vJ, vJ, vJ, vJ, vJ, vJ, vJ, vJ, vJ, vJ, vJ, vJ], ob := [(0, AO.box [AV.rsl kb xs])], nx := 1000000, ps := [] })) False) False) (R (some { av := vB true, obs := [], outs := [] }))) := by kernel_rfl
theorem kindF {n : Int} (h : n < 1 ∨ n > 2) : (n == 1 || n == 2) = false := by
  rw [show (n == 1) = false from beq_eq_false_iff_ne.2 (by omega), show (n == 2) = false from beq_eq_false_iff_ne.2 (by omega)]; rfl
theorem kindT {n : Int} (h1 : ¬ n < 1) (h2 : ¬ n > 2) : (n == 1 || n == 2) = true := by
  rw [Bool.or_eq_true, beq_iff_eq, beq_iff_eq]
  omega
theorem smB_len {xs : List (Elem kb)} (h : smB xs = true) : xs.length ≤ 1048576 := by
  unfold smB at h
  rw [Bool.and_eq_true] at h
  exact of_decide_eq_true h.1
theorem smB_at {xs : List (Elem kb)} (h : smB xs = true) {i : Nat} (hi : i < xs.length) : decide ((atB xs i).1.size ≤ 1048576) = true := by
  unfold smB at h
  rw [Bool.and_eq_true] at h
  exact all_at h.2 (edflt kb) hi
def ord (xs : List (Elem kb)) (i : Nat) : Bool := i == 0 || strLt (atB xs (i - 1)).1 (atB xs i).1
theorem set1_n {xs : List (Elem kb)} {i : Nat} (h : nameOk (atB xs i).1 = false) : set1 xs i = false := by unfold set1; rw [h]; rfl
theorem set1_o {xs : List (Elem kb)} {i : Nat} (h : ord xs i = false) : set1 xs i = false := by unfold set1; unfold ord at h; rw [h]; simp
theorem set1_k {xs : List (Elem kb)} {i : Nat} (h : ((atB xs i).2.1 == 1 || (atB xs i).2.1 == 2) = false) : set1 xs i = false := by unfold set1; rw [h]; simp
theorem set1_b {xs : List (Elem kb)} {i : Nat} (h : (allB 8 fun j => decide (((at1 (bks (atB xs i)) j).size : Int) ≤ 24)) = false) : set1 xs i = false := by unfold set1; rw [h]; simp
theorem set1_t {xs : List (Elem kb)} {i : Nat} (h1 : nameOk (atB xs i).1 = true) (h2 : ord xs i = true) (h3 : ((atB xs i).2.1 == 1 || (atB xs i).2.1 == 2) = true) (h4 : (allB 8 fun j => decide (((at1 (bks (atB xs i)) j).size : Int) ≤ 24)) = true) : set1 xs i = true := by
  unfold ord at h2
  unfold set1
  rw [h1, h2, h3, h4]
  rfl
theorem strLe_not (a b : ByteArray) : (strLt a b || strEq a b) = !strLt b a := by
  rcases strLt_tri a b with h | h | h
  · rw [h, strLt_asymm h]; rfl
  · subst h; rw [strLt_irrefl, strEq_self]; rfl
  · rw [h, strLt_asymm h, strEq_dec, decide_eq_false (fun e => by subst e; rw [strLt_irrefl] at h; cases h)]; rfl
theorem ord_0 (xs : List (Elem kb)) {i : Nat} (h : ¬ (i : Int) > 0) : ord xs i = true := by
  have : i = 0 := by omega
  subst this
  rfl
theorem ord_s (xs : List (Elem kb)) {i : Nat} (h : (i : Int) > 0) : ord xs i = strLt (atB xs (i - 1)).1 (atB xs i).1 := by
  unfold ord
  rw [show (i == 0) = false from beq_eq_false_iff_ne.2 (by omega), Bool.false_or]
theorem ix_pred {i : Nat} (h : (i : Int) > 0) (h2 : i < 9223372036854775807) : IntKind.i64.wrap ((i : Int) - 1) = ((i - 1 : Nat) : Int) := by
  rw [wrap_id (by omega) (by omega)]; omega
theorem bookOk_t {xs : List (Elem kb)} (h0 : ¬ (xs.length : Int) > 6) (h1 : allB xs.length (set1 xs) = true) : bookOk xs = allB xs.length fun i => rtB xs (xs.length + 1) (atB xs i) := by
  unfold bookOk
  rw [decide_eq_true (show (xs.length : Int) ≤ 6 by omega), h1]
  rfl
theorem bookOk_f {xs : List (Elem kb)} (h1 : allB xs.length (set1 xs) = false) : bookOk xs = false := by
  unfold bookOk
  rw [h1]
  simp
theorem bookOk_0 {xs : List (Elem kb)} (h1 : (xs.length : Int) > 6) : bookOk xs = false := by
  unfold bookOk
  rw [decide_eq_false (show ¬ (xs.length : Int) ≤ 6 by omega)]
  rfl
theorem h19 : G1Ok Tryd.prog 19 g19 := by
  intro args obs k h
  unfold g19 at h
  split at h
  · rename_i k xs
    obtain ⟨hs, h⟩ := br_and h
    have hlen := smB_len hs
    refine ⟨_, ctr_fn okf hg19 Tryd.func19 (by kernel_rfl) (by kernel_rfl) (by kernel_rfl) fun C => ?_, h⟩
    rw [e19]
    refine br_dec (fun h0 => ?_) (fun h0 => ?_)
    · show _ = _
      rw [bookOk_0 h0]
    refine loopAll okf19 hg19 (st19 xs) xs.length (set1 xs) (by omega) (fun N i hi hw next fails done => ?_)
    show evP E19 G19 _ (lp19 4) (st19 xs i) (rk19 _ _ 4 _)
    rw [b19, Int.toNat_natCast]
    refine br_dec (fun h2 => br_yes ⟨by omega, h2⟩ (br_t (smB_at hs (by omega)) (br_not (fun h3 => ?_) (fun h3 => (fun (tail : ord xs i = true → _) => br_dec (fun h4 => ?_) (fun h4 => tail (ord_0 xs h4))) (fun ho => ?_))))) (fun h2 => ?_)
    · show _ = _
      rw [bookOk_f (fails (by omega) (set1_n h3))]
    · rw [ix_pred h4 (by omega), Int.toNat_natCast, strLe_not]
      refine br_yes ⟨by omega, by omega⟩ (br_not (fun h5 => ?_) (fun h5 => tail ((ord_s xs h4).trans h5)))
      show _ = _
      rw [bookOk_f (fails (by omega) (set1_o ((ord_s xs h4).trans h5)))]
    · refine br_dec (fun h5 => ?_) (fun h5 => br_dec (fun h6 => ?_) (fun h6 => ?_))
      · show _ = _
        rw [bookOk_f (fails (by omega) (set1_k (kindF (.inl h5))))]
      · show _ = _
        rw [bookOk_f (fails (by omega) (set1_k (kindF (.inr h6))))]
      · have hk : ((atB xs i).2.1 == 1 || (atB xs i).2.1 == 2) = true := kindT h5 h6
        refine loopAll okf19 hg19 (si19 xs i (atB xs i)) 8 (fun j => decide (((at1 (bks (atB xs i)) j).size : Int) ≤ 24)) (by omega) (fun N2 j hj hw2 next2 fails2 done2 => ?_)
        have cs : j = 0 ∨ j = 1 ∨ j = 2 ∨ j = 3 ∨ j = 4 ∨ j = 5 ∨ j = 6 ∨ j = 7 ∨ j = 8 := by omega
        rcases cs with rfl | rfl | rfl | rfl | rfl | rfl | rfl | rfl | rfl
        · show evP E19 G19 _ (lp19 10) (si19 xs i (atB xs i) 0) (rkn19 _ _ 4 N 10 _)
          rw [bi19_0]
          refine br_dec (fun h7 => ?_) (fun h7 => next2 (by omega) (decide_eq_true (show ((at1 (bks (atB xs i)) 0).size : Int) ≤ 24 from by
            have : ¬ ((at1 (bks (atB xs i)) 0).size : Int) > 24 := h7
            omega)))
          show _ = _
          rw [bookOk_f (fails (by omega) (set1_b (fails2 (by omega) (decide_eq_false (show ¬ ((at1 (bks (atB xs i)) 0).size : Int) ≤ 24 from by
            have : ((at1 (bks (atB xs i)) 0).size : Int) > 24 := h7
            omega)))))]
        · show evP E19 G19 _ (lp19 10) (si19 xs i (atB xs i) 1) (rkn19 _ _ 4 N 10 _)
          rw [bi19_1]
          refine br_dec (fun h7 => ?_) (fun h7 => next2 (by omega) (decide_eq_true (show ((at1 (bks (atB xs i)) 1).size : Int) ≤ 24 from by
            have : ¬ ((at1 (bks (atB xs i)) 1).size : Int) > 24 := h7
            omega)))
          show _ = _
          rw [bookOk_f (fails (by omega) (set1_b (fails2 (by omega) (decide_eq_false (show ¬ ((at1 (bks (atB xs i)) 1).size : Int) ≤ 24 from by
            have : ((at1 (bks (atB xs i)) 1).size : Int) > 24 := h7
            omega)))))]
        · show evP E19 G19 _ (lp19 10) (si19 xs i (atB xs i) 2) (rkn19 _ _ 4 N 10 _)
          rw [bi19_2]
          refine br_dec (fun h7 => ?_) (fun h7 => next2 (by omega) (decide_eq_true (show ((at1 (bks (atB xs i)) 2).size : Int) ≤ 24 from by
            have : ¬ ((at1 (bks (atB xs i)) 2).size : Int) > 24 := h7
            omega)))
          show _ = _
          rw [bookOk_f (fails (by omega) (set1_b (fails2 (by omega) (decide_eq_false (show ¬ ((at1 (bks (atB xs i)) 2).size : Int) ≤ 24 from by
            have : ((at1 (bks (atB xs i)) 2).size : Int) > 24 := h7
            omega)))))]
        · show evP E19 G19 _ (lp19 10) (si19 xs i (atB xs i) 3) (rkn19 _ _ 4 N 10 _)
          rw [bi19_3]
          refine br_dec (fun h7 => ?_) (fun h7 => next2 (by omega) (decide_eq_true (show ((at1 (bks (atB xs i)) 3).size : Int) ≤ 24 from by
            have : ¬ ((at1 (bks (atB xs i)) 3).size : Int) > 24 := h7
            omega)))
          show _ = _
          rw [bookOk_f (fails (by omega) (set1_b (fails2 (by omega) (decide_eq_false (show ¬ ((at1 (bks (atB xs i)) 3).size : Int) ≤ 24 from by
            have : ((at1 (bks (atB xs i)) 3).size : Int) > 24 := h7
            omega)))))]
        · show evP E19 G19 _ (lp19 10) (si19 xs i (atB xs i) 4) (rkn19 _ _ 4 N 10 _)
          rw [bi19_4]
          refine br_dec (fun h7 => ?_) (fun h7 => next2 (by omega) (decide_eq_true (show ((at1 (bks (atB xs i)) 4).size : Int) ≤ 24 from by
            have : ¬ ((at1 (bks (atB xs i)) 4).size : Int) > 24 := h7
            omega)))
          show _ = _
          rw [bookOk_f (fails (by omega) (set1_b (fails2 (by omega) (decide_eq_false (show ¬ ((at1 (bks (atB xs i)) 4).size : Int) ≤ 24 from by
            have : ((at1 (bks (atB xs i)) 4).size : Int) > 24 := h7
            omega)))))]
        · show evP E19 G19 _ (lp19 10) (si19 xs i (atB xs i) 5) (rkn19 _ _ 4 N 10 _)
          rw [bi19_5]
          refine br_dec (fun h7 => ?_) (fun h7 => next2 (by omega) (decide_eq_true (show ((at1 (bks (atB xs i)) 5).size : Int) ≤ 24 from by
            have : ¬ ((at1 (bks (atB xs i)) 5).size : Int) > 24 := h7
            omega)))
          show _ = _
          rw [bookOk_f (fails (by omega) (set1_b (fails2 (by omega) (decide_eq_false (show ¬ ((at1 (bks (atB xs i)) 5).size : Int) ≤ 24 from by
            have : ((at1 (bks (atB xs i)) 5).size : Int) > 24 := h7
            omega)))))]
        · show evP E19 G19 _ (lp19 10) (si19 xs i (atB xs i) 6) (rkn19 _ _ 4 N 10 _)
          rw [bi19_6]
          refine br_dec (fun h7 => ?_) (fun h7 => next2 (by omega) (decide_eq_true (show ((at1 (bks (atB xs i)) 6).size : Int) ≤ 24 from by
            have : ¬ ((at1 (bks (atB xs i)) 6).size : Int) > 24 := h7
            omega)))
          show _ = _
          rw [bookOk_f (fails (by omega) (set1_b (fails2 (by omega) (decide_eq_false (show ¬ ((at1 (bks (atB xs i)) 6).size : Int) ≤ 24 from by
            have : ((at1 (bks (atB xs i)) 6).size : Int) > 24 := h7
            omega)))))]
        · show evP E19 G19 _ (lp19 10) (si19 xs i (atB xs i) 7) (rkn19 _ _ 4 N 10 _)
          rw [bi19_7]
          refine br_dec (fun h7 => ?_) (fun h7 => next2 (by omega) (decide_eq_true (show ((at1 (bks (atB xs i)) 7).size : Int) ≤ 24 from by
            have : ¬ ((at1 (bks (atB xs i)) 7).size : Int) > 24 := h7
            omega)))
          show _ = _
          rw [bookOk_f (fails (by omega) (set1_b (fails2 (by omega) (decide_eq_false (show ¬ ((at1 (bks (atB xs i)) 7).size : Int) ≤ 24 from by
            have : ((at1 (bks (atB xs i)) 7).size : Int) > 24 := h7
            omega)))))]
        · show evP E19 G19 _ (lp19 10) (si19 xs i (atB xs i) 8) (rkn19 _ _ 4 N 10 _)
          rw [bi19_8, hw]
          exact next (by omega) (set1_t h3 ho hk (done2 (by omega)))
    · have hall := done (by omega)
      refine loopAll okf19 hg19 (sr19 xs) xs.length (fun i => rtB xs (xs.length + 1) (atB xs i)) (by omega) (fun N2 j hj hw2 next2 fails2 done2 => ?_)
      show evP E19 G19 _ (lp19 15) (sr19 xs j) (rk19 _ _ 15 _)
      rw [br19, hw2, Int.toNat_natCast]
      refine br_dec (fun h3 => br_yes ⟨by omega, h3⟩ (br_yes hlen (br_not (fun h4 => ?_) (fun h4 => next2 (by omega) h4)))) (fun h3 => ?_)
      · show _ = _
        rw [bookOk_t h0 hall, fails2 (by omega) h4]
      · show _ = _
        rw [bookOk_t h0 hall, done2 (by omega)]
  · exact h.elim
noncomputable def E38 : Env := Ef.of Tryd.f38
noncomputable def G38 : Gk := gk [(60, g43), (61, g61), (63, g63)]
noncomputable def lp38 (n : Nat) : Code := (loopOf n (codeOf Tryd.f38)).getD .skip
noncomputable def ct38 (L : Lp) (R : Option Res → Prop) (n : Nat) : Kt := contOf E38 G38 L n (codeOf Tryd.f38) (endK E38 Tryd.f38.results.toList R)
noncomputable def rk38 (L : Lp) (R : Option Res → Prop) (n : Nat) (N : St → Prop) : Kt := rk (jof E38 (lp38 n)) N (ct38 L R n)
noncomputable def LOOP38 (L : Lp) (R : Option Res → Prop) (n : Nat) (st : St) : Prop := L (lp38 n) st (ct38 L R n)
theorem hg38 : HG Tryd.prog G38 := (hg_cons h60 (hg_cons h61 (hg_cons h63 hg_nil)))
theorem okf38 : Ok Tryd.prog E38 := okf.of Tryd.f38
theorem e38 (L : Lp) (R : Option Res → Prop) (xs : List (Elem kb)) : (bodyP Ef G38 L Tryd.f38 [.agg [.rsl kb xs]] [] R) = (
    br (decide ((↑xs.length : Int) > 6)) (R (some { av := vB false, obs := [], outs := [] })) (LOOP38 L R 4 { tm := [vJ, AV.ptr 0 0, vJ, vJ, vJ, vJ, vJ, vJ, vJ, vJ, AV.rsl kb xs, vI (↑xs.length : Int), vI 0, vJ, vJ, vJ, vJ, vJ, vJ, vJ, vJ, vJ, vJ, vJ, vJ, vJ, vJ, vJ, vJ, vJ, vJ, vJ, vJ, vJ, vJ, vJ, vJ, vJ, vJ, vJ, vJ, vJ, vJ, vJ, vJ, vJ, vJ, vJ, vJ, vJ, vJ, vJ, vJ, vJ, vJ, vJ, vJ, vJ], ob := [(0, AO.box [AV.rsl kb xs])], nx := 1000000, ps := [] })) := by kernel_rfl
def st38 (xs : List (Elem kb)) (i : Int) : St :=  ⟨[vJ, AV.ptr 0 0, vJ, vJ, vJ, vJ, vJ, vJ, vJ, vJ, AV.rsl kb xs, vI (↑xs.length : Int), .val (.int .i64 i), vJ, vJ, vJ, vJ, vJ, vJ, vJ, vJ, vJ, vJ, vJ, vJ, vJ, vJ, vJ, vJ, vJ, vJ, vJ, vJ, vJ, vJ, vJ, vJ, vJ, vJ, vJ, vJ, vJ, vJ, vJ, vJ, vJ, vJ, vJ, vJ, vJ, vJ, vJ, vJ, vJ, vJ, vJ, vJ, vJ], [(0, AO.box [AV.rsl kb xs])], 1000000, []⟩
theorem b38 (L : Lp) (R : Option Res → Prop) (N : St → Prop) (xs : List (Elem kb)) (i : Int) : (evP E38 G38 L (lp38 4) (st38 xs i) (rk38 L R 4 N)) = (
    br (decide (i < (↑xs.length : Int))) (br (decide (0 ≤ i ∧ i < (↑xs.length : Int))) (br (decide (ByteArray.size (xs.getD i.toNat (edflt kb)).fst ≤ 1048576)) (br (!nameOk (xs.getD i.toNat (edflt kb)).fst) (R (some { av := vB false, obs := [], outs := [] })) (br (decide (i > 0)) (br (decide (0 ≤ IntKind.i64.wrap (i - 1) ∧ IntKind.i64.wrap (i - 1) < (↑xs.length : Int))) (br (!strLt (xs.getD (IntKind.i64.wrap (i - 1)).toNat (edflt kb)).fst (xs.getD i.toNat (edflt kb)).fst) (R (some { av := vB false, obs := [], outs := [] })) (br ((xs.getD i.toNat (edflt kb)).snd.fst != 1) (br ((xs.getD i.toNat (edflt kb)).snd.fst != 2) (R (some { av := vB false, obs := [], outs := [] })) (br (anyB [((xs.getD i.toNat (edflt kb)).snd.snd.snd.fst, ()), ((xs.getD i.toNat (edflt kb)).snd.snd.snd.snd.fst, ()), ((xs.getD i.toNat (edflt kb)).snd.snd.snd.snd.snd.fst, ()), ((xs.getD i.toNat (edflt kb)).snd.snd.snd.snd.snd.snd.fst, ()), ((xs.getD i.toNat (edflt kb)).snd.snd.snd.snd.snd.snd.snd.fst, ()), ((xs.getD i.toNat (edflt kb)).snd.snd.snd.snd.snd.snd.snd.snd.fst, ()), ((xs.getD i.toNat (edflt kb)).snd.snd.snd.snd.snd.snd.snd.snd.snd.fst, ()), (xs.getD i.toNat (edflt kb)).snd.snd.snd.snd.snd.snd.snd.snd.snd.snd].length fun i_1 => decide ((↑(at1 [((xs.getD i.toNat (edflt kb)).snd.snd.snd.fst, ()), ((xs.getD i.toNat (edflt kb)).snd.snd.snd.snd.fst, ()), ((xs.getD i.toNat (edflt kb)).snd.snd.snd.snd.snd.fst, ()), ((xs.getD i.toNat (edflt kb)).snd.snd.snd.snd.snd.snd.fst, ()), ((xs.getD i.toNat (edflt kb)).snd.snd.snd.snd.snd.snd.snd.fst, ()), ((xs.getD i.toNat (edflt kb)).snd.snd.snd.snd.snd.snd.snd.snd.fst, ()), ((xs.getD i.toNat (edflt kb)).snd.snd.snd.snd.snd.snd.snd.snd.snd.fst, ()), (xs.getD i.toNat (edflt kb)).snd.snd.snd.snd.snd.snd.snd.snd.snd.snd] i_1).size : Int) > 24)) (R (some { av := vB false, obs := [], outs := [] })) (N { tm := [vJ, AV.ptr 0 0, vJ, vJ, vJ, vJ, vJ, vJ, vJ, vJ, AV.rsl kb xs, vI (↑xs.length : Int), vI (IntKind.i64.wrap (i + 1)), vJ, vJ, vJ, vJ, vJ, vJ, vJ, vJ, vJ, vJ, vJ, vJ, vJ, vJ, vJ, vJ, vJ, vJ, vJ, vJ, vJ, vJ, vJ, vJ, vJ, vJ, vJ, vJ, vJ, vJ, vJ, vJ, vJ, vJ, vJ, vJ, vJ, vJ, vJ, vJ, vJ, vJ, vJ, vJ, vJ], ob := [(0, AO.box [AV.rsl kb xs])], nx := 1000000, ps := [] }))) (br (anyB [((xs.getD i.toNat (edflt kb)).snd.snd.snd.fst, ()), ((xs.getD i.toNat (edflt kb)).snd.snd.snd.snd.fst, ()), ((xs.getD i.toNat (edflt kb)).snd.snd.snd.snd.snd.fst, ()), ((xs.getD i.toNat (edflt kb)).snd.snd.snd.snd.snd.snd.fst, ()), ((xs.getD i.toNat (edflt kb)).snd.snd.snd.snd.snd.snd.snd.fst, ()), ((xs.getD i.toNat (edflt kb)).snd.snd.snd.snd.snd.snd.snd.snd.fst, ()), ((xs.getD i.toNat (edflt kb)).snd.snd.snd.snd.snd.snd.snd.snd.snd.fst, ()), (xs.getD i.toNat (edflt kb)).snd.snd.snd.snd.snd.snd.snd.snd.snd.snd].length fun i_1 => decide ((↑(at1 [((xs.getD i.toNat (edflt kb)).snd.snd.snd.fst, ()), ((xs.getD i.toNat (edflt kb)).snd.snd.snd.snd.fst, ()), ((xs.getD i.toNat (edflt kb)).snd.snd.snd.snd.snd.fst, ()), ((xs.getD i.toNat (edflt kb)).snd.snd.snd.snd.snd.snd.fst, ()), ((xs.getD i.toNat (edflt kb)).snd.snd.snd.snd.snd.snd.snd.fst, ()), ((xs.getD i.toNat (edflt kb)).snd.snd.snd.snd.snd.snd.snd.snd.fst, ()), ((xs.getD i.toNat (edflt kb)).snd.snd.snd.snd.snd.snd.snd.snd.snd.fst, ()), (xs.getD i.toNat (edflt kb)).snd.snd.snd.snd.snd.snd.snd.snd.snd.snd] i_1).size : Int) > 24)) (R (some { av := vB false, obs := [], outs := [] })) (N { tm := [vJ, AV.ptr 0 0, vJ, vJ, vJ, vJ, vJ, vJ, vJ, vJ, AV.rsl kb xs, vI (↑xs.length : Int), vI (IntKind.i64.wrap (i + 1)), vJ, vJ, vJ, vJ, vJ, vJ, vJ, vJ, vJ, vJ, vJ, vJ, vJ, vJ, vJ, vJ, vJ, vJ, vJ, vJ, vJ, vJ, vJ, vJ, vJ, vJ, vJ, vJ, vJ, vJ, vJ, vJ, vJ, vJ, vJ, vJ, vJ, vJ, vJ, vJ, vJ, vJ, vJ, vJ, vJ], ob := [(0, AO.box [AV.rsl kb xs])], nx := 1000000, ps := [] })))) False) (br ((xs.getD i.toNat (edflt kb)).snd.fst != 1) (br ((xs.getD i.toNat (edflt kb)).snd.fst != 2) (R (some { av := vB false, obs := [], outs := [] })) (br (anyB [((xs.getD i.toNat (edflt kb)).snd.snd.snd.fst, ()), ((xs.getD i.toNat (edflt kb)).snd.snd.snd.snd.fst, ()), ((xs.getD i.toNat (edflt kb)).snd.snd.snd.snd.snd.fst, ()), ((xs.getD i.toNat (edflt kb)).snd.snd.snd.snd.snd.snd.fst, ()), ((xs.getD i.toNat (edflt kb)).snd.snd.snd.snd.snd.snd.snd.fst, ()), ((xs.getD i.toNat (edflt kb)).snd.snd.snd.snd.snd.snd.snd.snd.fst, ()), ((xs.getD i.toNat (edflt kb)).snd.snd.snd.snd.snd.snd.snd.snd.snd.fst, ()), (xs.getD i.toNat (edflt kb)).snd.snd.snd.snd.snd.snd.snd.snd.snd.snd].length fun i_1 => decide ((↑(at1 [((xs.getD i.toNat (edflt kb)).snd.snd.snd.fst, ()), ((xs.getD i.toNat (edflt kb)).snd.snd.snd.snd.fst, ()), ((xs.getD i.toNat (edflt kb)).snd.snd.snd.snd.snd.fst, ()), ((xs.getD i.toNat (edflt kb)).snd.snd.snd.snd.snd.snd.fst, ()), ((xs.getD i.toNat (edflt kb)).snd.snd.snd.snd.snd.snd.snd.fst, ()), ((xs.getD i.toNat (edflt kb)).snd.snd.snd.snd.snd.snd.snd.snd.fst, ()), ((xs.getD i.toNat (edflt kb)).snd.snd.snd.snd.snd.snd.snd.snd.snd.fst, ()), (xs.getD i.toNat (edflt kb)).snd.snd.snd.snd.snd.snd.snd.snd.snd.snd] i_1).size : Int) > 24)) (R (some { av := vB false, obs := [], outs := [] })) (N { tm := [vJ, AV.ptr 0 0, vJ, vJ, vJ, vJ, vJ, vJ, vJ, vJ, AV.rsl kb xs, vI (↑xs.length : Int), vI (IntKind.i64.wrap (i + 1)), vJ, vJ, vJ, vJ, vJ, vJ, vJ, vJ, vJ, vJ, vJ, vJ, vJ, vJ, vJ, vJ, vJ, vJ, vJ, vJ, vJ, vJ, vJ, vJ, vJ, vJ, vJ, vJ, vJ, vJ, vJ, vJ, vJ, vJ, vJ, vJ, vJ, vJ, vJ, vJ, vJ, vJ, vJ, vJ, vJ], ob := [(0, AO.box [AV.rsl kb xs])], nx := 1000000, ps := [] }))) (br (anyB [((xs.getD i.toNat (edflt kb)).snd.snd.snd.fst, ()), ((xs.getD i.toNat (edflt kb)).snd.snd.snd.snd.fst, ()), ((xs.getD i.toNat (edflt kb)).snd.snd.snd.snd.snd.fst, ()), ((xs.getD i.toNat (edflt kb)).snd.snd.snd.snd.snd.snd.fst, ()), ((xs.getD i.toNat (edflt kb)).snd.snd.snd.snd.snd.snd.snd.fst, ()), ((xs.getD i.toNat (edflt kb)).snd.snd.snd.snd.snd.snd.snd.snd.fst, ()), ((xs.getD i.toNat (edflt kb)).snd.snd.snd.snd.snd.snd.snd.snd.snd.fst, ()), (xs.getD i.toNat (edflt kb)).snd.snd.snd.snd.snd.snd.snd.snd.snd.snd].length fun i_1 => decide ((↑(at1 [((xs.getD i.toNat (edflt kb)).snd.snd.snd.fst, ()), ((xs.getD i.toNat (edflt kb)).snd.snd.snd.snd.fst, ()), ((xs.getD i.toNat (edflt kb)).snd.snd.snd.snd.snd.fst, ()), ((xs.getD i.toNat (edflt kb)).snd.snd.snd.snd.snd.snd.fst, ()), ((xs.getD i.toNat (edflt kb)).snd.snd.snd.snd.snd.snd.snd.fst, ()), ((xs.getD i.toNat (edflt kb)).snd.snd.snd.snd.snd.snd.snd.snd.fst, ()), ((xs.getD i.toNat (edflt kb)).snd.snd.snd.snd.snd.snd.snd.snd.snd.fst, ()), (xs.getD i.toNat (edflt kb)).snd.snd.snd.snd.snd.snd.snd.snd.snd.snd] i_1).size : Int) > 24)) (R (some { av := vB false, obs := [], outs := [] })) (N { tm := [vJ, AV.ptr 0 0, vJ, vJ, vJ, vJ, vJ, vJ, vJ, vJ, AV.rsl kb xs, vI (↑xs.length : Int), vI (IntKind.i64.wrap (i + 1)), vJ, vJ, vJ, vJ, vJ, vJ, vJ, vJ, vJ, vJ, vJ, vJ, vJ, vJ, vJ, vJ, vJ, vJ, vJ, vJ, vJ, vJ, vJ, vJ, vJ, vJ, vJ, vJ, vJ, vJ, vJ, vJ, vJ, vJ, vJ, vJ, vJ, vJ, vJ, vJ, vJ, vJ, vJ, vJ, vJ], ob := [(0, AO.box [AV.rsl kb xs])], nx := 1000000, ps := [] }))))) False) False) (br (decide (xs.length ≤ 1048576) && decide (xs.length ≤ 1048576)) (R (some { av := vB !anyB xs.length fun i => !ldB xs xs.length (atB xs i), obs := [], outs := [] })) False)) := by kernel_rfl
theorem srt {xs : List (Elem kb)} (h : allB xs.length (set1 xs) = true) : ∀ (j i : Nat), i < j → j < xs.length → strLt (atB xs i).1 (atB xs j).1 = true
  | 0, i, hi, _ => absurd hi (by omega)
  | j + 1, i, hi, hj => by
    have h1 := allB_at h hj
    unfold set1 at h1
    simp only [Bool.and_eq_true, Bool.or_eq_true, beq_iff_eq, Nat.add_sub_cancel] at h1
    have h2 : strLt (atB xs j).1 (atB xs (j + 1)).1 = true := by
      rcases h1.1.1.2 with e | e
      · omega
      · exact e
    by_cases e : i = j
    · rw [e]; exact h2
    · exact strLt_trans (srt h j i (by omega) (by omega)) h2
/-- In a valid book a name is found where it belongs. -/
theorem fdB_ln {xs : List (Elem kb)} (h : allB xs.length (set1 xs) = true) (t : ByteArray) : fdB xs t = match okB xs t with | true => some (lnB xs t) | false => none := by
  unfold fdB okB lnB
  refine fd_ln (fun i hi hp => ?_) (fun i j hij hj he => ?_)
  · rw [strEq_dec]
    refine decide_eq_false fun e => ?_
    rw [e, strLt_irrefl] at hp
    cases hp
  · have := srt h j i hij hj
    rw [strEq_iff.1 he] at this
    exact this
def stB (xs : List (Elem kb)) (a : Nat) : Bool ⊕ Nat := match strEq (atB xs a).2.2.1 ⟨#[]⟩ with
  | true => .inl ((atB xs a).2.1 == 1)
  | false => match fdB xs (atB xs a).2.2.1 with
    | none => .inl false
    | some k => match (atB xs k).2.1 == (atB xs a).2.1 with
      | true => .inl false
      | false => .inr k
theorem ld_chain (xs : List (Elem kb)) : ∀ (m a : Nat), ldB xs m (atB xs a) = chain (stB xs) m a
  | 0, _ => rfl
  | m + 1, a => by
    unfold chain stB
    cases h1 : strEq (atB xs a).2.2.1 ⟨#[]⟩ with
    | true => rw [ldB_root h1]
    | false =>
      cases h2 : fdB xs (atB xs a).2.2.1 with
      | none => rw [ldB_none h1 h2]
      | some k =>
        rw [ldB_some h1 h2]
        cases h3 : (atB xs k).2.1 == (atB xs a).2.1 with
        | true => simp only [h3]
        | false => simp only [h3]; exact ld_chain xs m k
theorem rt_chain {xs : List (Elem kb)} (h : allB xs.length (set1 xs) = true) : ∀ (m a : Nat), rtB xs m (atB xs a) = chain (stB xs) m a
  | 0, _ => rfl
  | m + 1, a => by
    unfold chain stB
    cases h1 : strEq (atB xs a).2.2.1 ⟨#[]⟩ with
    | true => rw [rtB_root h1]
    | false =>
      rw [fdB_ln h]
      cases h2 : okB xs (atB xs a).2.2.1 with
      | false => rw [rtB_none h1 h2]
      | true =>
        rw [rtB_some h1 h2]
        cases h3 : (atB xs (lnB xs (atB xs a).2.2.1)).2.1 == (atB xs a).2.1 with
        | true => simp only [h3]
        | false => simp only [h3]; exact rt_chain h m _
theorem ld_rt {xs : List (Elem kb)} (h : allB xs.length (set1 xs) = true) {i : Nat} (hi : i < xs.length) : ldB xs xs.length (atB xs i) = rtB xs (xs.length + 1) (atB xs i) := by
  rw [ld_chain, rt_chain h]
  refine chain_enough (stB xs) xs.length (fun a k ha hk => ?_) i hi
  unfold stB at hk
  split at hk
  · cases hk
  · split at hk
    · cases hk
    · rename_i q hq
      split at hk
      · cases hk
      · cases hk
        exact fdB_lt hq
theorem leads_all {xs : List (Elem kb)} (h : allB xs.length (set1 xs) = true) : (!anyB xs.length fun i => !ldB xs xs.length (atB xs i)) = allB xs.length fun i => rtB xs (xs.length + 1) (atB xs i) := by
  rw [anyB_all, Bool.not_not]
  exact allB_congr fun i hi => by rw [Bool.not_not, ld_rt h hi]
theorem any8 (e : Elem kb) : (anyB (bks e).length fun j => decide (((at1 (bks e) j).size : Int) > 24)) = !allB 8 fun j => decide (((at1 (bks e) j).size : Int) ≤ 24) := by
  rw [anyB_all]
  congr 1
  refine allB_congr fun j hj => ?_
  rw [Bool.eq_iff_iff]
  simp
theorem h38 : G1Ok Tryd.prog 38 g19 := by
  intro args obs k h
  unfold g19 at h
  split at h
  · rename_i k xs
    obtain ⟨hs, h⟩ := br_and h
    have hlen := smB_len hs
    refine ⟨_, ctr_fn okf hg38 Tryd.func38 (by kernel_rfl) (by kernel_rfl) (by kernel_rfl) fun C => ?_, h⟩
    rw [e38]
    refine br_dec (fun h0 => ?_) (fun h0 => ?_)
    · show _ = _
      rw [bookOk_0 h0]
    refine loopAll okf38 hg38 (st38 xs) xs.length (set1 xs) (by omega) (fun N i hi hw next fails done => ?_)
    show evP E38 G38 _ (lp38 4) (st38 xs i) (rk38 _ _ 4 _)
    rw [b38, hw, Int.toNat_natCast]
    refine br_dec (fun h2 => br_yes ⟨by omega, h2⟩ (br_t (smB_at hs (by omega)) (br_not (fun h3 => ?_) (fun h3 => (fun (tail : ord xs i = true → _) => br_dec (fun h4 => ?_) (fun h4 => tail (ord_0 xs h4))) (fun ho => ?_))))) (fun h2 => ?_)
    · show _ = _
      rw [bookOk_f (fails (by omega) (set1_n h3))]
    · rw [ix_pred h4 (by omega), Int.toNat_natCast]
      refine br_yes ⟨by omega, by omega⟩ (br_not (fun h5 => ?_) (fun h5 => tail ((ord_s xs h4).trans h5)))
      show _ = _
      rw [bookOk_f (fails (by omega) (set1_o ((ord_s xs h4).trans h5)))]
    · refine (fun (tail : ((atB xs i).2.1 == 1 || (atB xs i).2.1 == 2) = true → _) => br_bne (fun h5 => br_bne (fun h6 => ?_) (fun h6 => tail ?_)) (fun h5 => tail ?_)) (fun hk => ?_)
      · show _ = _
        rw [bookOk_f (fails (by omega) (set1_k (by rw [h5, h6]; rfl)))]
      · rw [h6, Bool.or_true]
      · rw [h5, Bool.true_or]
      · show br (anyB (bks (atB xs i)).length fun j => decide (((at1 (bks (atB xs i)) j).size : Int) > 24)) _ _
        rw [any8]
        refine br_not (fun h7 => ?_) (fun h7 => next (by omega) (set1_t h3 ho hk h7))
        show _ = _
        rw [bookOk_f (fails (by omega) (set1_b h7))]
    · have hall := done (by omega)
      refine br_t (by rw [decide_eq_true hlen]; rfl) ?_
      show _ = _
      rw [bookOk_t h0 hall, ← leads_all hall]
  · exact h.elim
end Go.Proofs.YtkjnijddbiconaaDoor.Ev
