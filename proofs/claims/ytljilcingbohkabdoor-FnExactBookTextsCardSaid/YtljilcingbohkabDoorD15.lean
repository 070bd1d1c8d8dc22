/- The law of BookOk. -/
import Derived.Test.YtljilcingbohkabDoorD14
namespace Go.Proofs.YtljilcingbohkabDoor.Ev
open Go
set_option linter.unusedVariables false
set_option linter.unusedSimpArgs false
set_option maxRecDepth 100000
def set1 (xs : List (Elem kb)) (i : Nat) : Bool := nameOk (atB xs i).1 && (i == 0 || strLt (atB xs (i - 1)).1 (atB xs i).1) && ((atB xs i).2.1 == 1 || (atB xs i).2.1 == 2) && allB 8 fun j => decide (((at1 (bks (atB xs i)) j).size : Int) ≤ 24)
def bookOk (xs : List (Elem kb)) : Bool := decide ((xs.length : Int) ≤ 6) && (allB xs.length (set1 xs) && allB xs.length fun i => rtB xs (xs.length + 1) (atB xs i))
def smB (xs : List (Elem kb)) : Bool := decide (xs.length ≤ 1048576) && xs.all fun e => decide (e.1.size ≤ 1048576)
def g54 : G1
  | [.agg [.rsl [.str, .int .i64, .str, .str, .str, .str, .str, .str, .str, .str, .str] xs]], [], k => br (smB xs) (k ⟨.val (.bool (bookOk xs)), [], []⟩) False
  | _, _, _ => False
def g127 : G1
  | [.agg us, .rpt [.rsl [.str, .int .i64, .str, .str, .str, .str, .str, .str, .str, .str, .str] xs]], [], k => match elemOf kb us with
    | some s => br (decide (xs.length ≤ 1048576)) (k ⟨.val (.bool (!ldB xs xs.length s)), [], []⟩) False
    | none => False
  | _, _, _ => False
def g155b : G1
  | [.rsl [.str, .int .i64, .str, .str, .str, .str, .str, .str, .str, .str, .str] xs, .fn 127 [.rpt [.rsl [.str, .int .i64, .str, .str, .str, .str, .str, .str, .str, .str, .str] ys]]], [], k => br (decide (xs.length ≤ 1048576) && decide (ys.length ≤ 1048576)) (k ⟨.val (.int .i64 (fIx xs.length fun i => !ldB ys ys.length (atB xs i))), [], []⟩) False
  | _, _, _ => False
def g126 : G1
  | [.rsl [.str, .int .i64, .str, .str, .str, .str, .str, .str, .str, .str, .str] xs, .fn 127 [.rpt [.rsl [.str, .int .i64, .str, .str, .str, .str, .str, .str, .str, .str, .str] ys]]], [], k => br (decide (xs.length ≤ 1048576) && decide (ys.length ≤ 1048576)) (k ⟨.val (.bool (anyB xs.length fun i => !ldB ys ys.length (atB xs i))), [], []⟩) False
  | _, _, _ => False
noncomputable def E127 : Env := Ef.of Tryd.f127
noncomputable def G127 : Gk := gk [(128, g128)]
noncomputable def lp127 (n : Nat) : Code := (loopOf n (codeOf Tryd.f127)).getD .skip
noncomputable def ct127 (L : Lp) (R : Option Res → Prop) (n : Nat) : Kt := contOf E127 G127 L n (codeOf Tryd.f127) (endK E127 Tryd.f127.results.toList R)
noncomputable def rk127 (L : Lp) (R : Option Res → Prop) (n : Nat) (N : St → Prop) : Kt := rk (jof E127 (lp127 n)) N (ct127 L R n)
noncomputable def rkn127 (L : Lp) (R : Option Res → Prop) (n : Nat) (N : St → Prop) (m : Nat) (N2 : St → Prop) : Kt := rk (jof E127 (lp127 m)) N2 (contOf E127 G127 L m (lp127 n) (rk127 L R n N))
noncomputable def LOOPN127 (L : Lp) (R : Option Res → Prop) (n : Nat) (N : St → Prop) (m : Nat) (st : St) : Prop := L (lp127 m) st (contOf E127 G127 L m (lp127 n) (rk127 L R n N))
noncomputable def LOOP127 (L : Lp) (R : Option Res → Prop) (n : Nat) (st : St) : Prop := L (lp127 n) st (ct127 L R n)
theorem hg127 : HG Tryd.prog G127 := (hg_cons h128 hg_nil)
theorem okf127 : Ok Tryd.prog E127 := okf.of Tryd.f127
theorem e127 (L : Lp) (R : Option Res → Prop) (e : Elem kb) (xs : List (Elem kb)) : (bodyP Ef G127 L Tryd.f127 [.agg (setC e), .rpt [.rsl kb xs]] [] R) = (
    br (decide (xs.length ≤ 1048576)) (R (some { av := vB !ldB xs xs.length e, obs := [], outs := [] })) False) := by kernel_rfl
theorem h127 : G1Ok Tryd.prog 127 g127 := by
  intro args obs k h
  unfold g127 at h
  split at h
  · rename_i k us xs
    split at h
    rotate_left
    · exact h.elim
    rename_i s hs
    obtain rfl := elemOf_inv hs
    obtain ⟨hl, h⟩ := br_and h
    refine ⟨_, ctr_fn okf hg127 Tryd.func127 (by kernel_rfl) (by kernel_rfl) (by kernel_rfl) fun C => ?_, h⟩
    show bodyP Ef G127 _ Tryd.f127 [.agg (setC s), .rpt [.rsl kb xs]] [] _
    rw [e127]
    exact br_t hl rfl
  · exact h.elim
noncomputable def E155b : Env := Ef.of Tryd.f155
noncomputable def G155b : Gk := gk [(127, g127)]
noncomputable def lp155b (n : Nat) : Code := (loopOf n (codeOf Tryd.f155)).getD .skip
noncomputable def ct155b (L : Lp) (R : Option Res → Prop) (n : Nat) : Kt := contOf E155b G155b L n (codeOf Tryd.f155) (endK E155b Tryd.f155.results.toList R)
noncomputable def rk155b (L : Lp) (R : Option Res → Prop) (n : Nat) (N : St → Prop) : Kt := rk (jof E155b (lp155b n)) N (ct155b L R n)
noncomputable def rkn155b (L : Lp) (R : Option Res → Prop) (n : Nat) (N : St → Prop) (m : Nat) (N2 : St → Prop) : Kt := rk (jof E155b (lp155b m)) N2 (contOf E155b G155b L m (lp155b n) (rk155b L R n N))
noncomputable def LOOPN155b (L : Lp) (R : Option Res → Prop) (n : Nat) (N : St → Prop) (m : Nat) (st : St) : Prop := L (lp155b m) st (contOf E155b G155b L m (lp155b n) (rk155b L R n N))
noncomputable def LOOP155b (L : Lp) (R : Option Res → Prop) (n : Nat) (st : St) : Prop := L (lp155b n) st (ct155b L R n)
theorem hg155b : HG Tryd.prog G155b := (hg_cons h127 hg_nil)
theorem okf155b : Ok Tryd.prog E155b := okf.of Tryd.f155
theorem e155b (L : Lp) (R : Option Res → Prop) (xs ys : List (Elem kb)) : (bodyP Ef G155b L Tryd.f155 [.rsl kb xs, .fn 127 [.rpt [.rsl kb ys]]] [] R) = (
    LOOP155b L R 2 { tm := [AV.rsl kb xs, AV.fn 127 [AV.rpt [AV.rsl kb ys]], vJ, vJ, vJ, vJ, vJ, vI (↑xs.length : Int), vI 0, vJ, vJ, vJ, vJ, vJ, vJ, vJ, vJ, vJ, vJ], ob := [], nx := 1000000, ps := [] }) := by kernel_rfl
def st155b (xs ys : List (Elem kb)) (i : Int) : St :=  ⟨[AV.rsl kb xs, AV.fn 127 [AV.rpt [AV.rsl kb ys]], vJ, vJ, vJ, vJ, vJ, vI (↑xs.length : Int), .val (.int .i64 i), vJ, vJ, vJ, vJ, vJ, vJ, vJ, vJ, vJ, vJ], [], 1000000, []⟩
theorem b155b (L : Lp) (R : Option Res → Prop) (N : St → Prop) (xs ys : List (Elem kb)) (i : Int) : (evP E155b G155b L (lp155b 2) (st155b xs ys i) (rk155b L R 2 N)) = (
    br (decide (i < (↑xs.length : Int))) (br (decide (0 ≤ i ∧ i < (↑xs.length : Int))) (br (decide (ys.length ≤ 1048576)) (br (!ldB ys ys.length (xs.getD i.toNat (edflt kb))) (R (some { av := vI i, obs := [], outs := [] })) (N { tm := [AV.rsl kb xs, AV.fn 127 [AV.rpt [AV.rsl kb ys]], vJ, vJ, vJ, vJ, vJ, vI (↑xs.length : Int), vI (IntKind.i64.wrap (i + 1)), vJ, vJ, vJ, vJ, vJ, vJ, vJ, vJ, vJ, vJ], ob := [], nx := 1000000, ps := [] })) False) False) (R (some { av := vI (-1), obs := [], outs := [] }))) := by kernel_rfl
theorem h155b : G1Ok Tryd.prog 155 g155b := by
  intro args obs k h
  unfold g155b at h
  split at h
  · rename_i k xs ys
    obtain ⟨hl, hm, h⟩ := brb2 h
    have hl' := of_decide_eq_true hl
    refine ⟨_, ctr_fn okf hg155b Tryd.func155 (by kernel_rfl) (by kernel_rfl) (by kernel_rfl) fun C => ?_, h⟩
    rw [e155b]
    refine loopFind okf155b hg155b (fun i => st155b xs ys i) xs.length (fun i => !ldB ys ys.length (atB xs i)) (by omega) (fun N i hi hw next found none => ?_)
    show evP E155b G155b _ (lp155b 2) (st155b xs ys i) (rk155b _ _ 2 _)
    rw [b155b, hw, Int.toNat_natCast]
    refine br_dec (fun h2 => br_yes ⟨by omega, h2⟩ (br_t hm (br_intro (fun h3 => ?_) (fun h3 => ?_)))) (fun h2 => ?_)
    · show _ = _
      rw [found (by omega) h3]
    · exact next (by omega) h3
    · show _ = _
      rw [none (by omega)]
  · exact h.elim
noncomputable def E126 : Env := Ef.of Tryd.f126
noncomputable def G126 : Gk := gk [(155, g155b)]
noncomputable def lp126 (n : Nat) : Code := (loopOf n (codeOf Tryd.f126)).getD .skip
noncomputable def ct126 (L : Lp) (R : Option Res → Prop) (n : Nat) : Kt := contOf E126 G126 L n (codeOf Tryd.f126) (endK E126 Tryd.f126.results.toList R)
noncomputable def rk126 (L : Lp) (R : Option Res → Prop) (n : Nat) (N : St → Prop) : Kt := rk (jof E126 (lp126 n)) N (ct126 L R n)
noncomputable def rkn126 (L : Lp) (R : Option Res → Prop) (n : Nat) (N : St → Prop) (m : Nat) (N2 : St → Prop) : Kt := rk (jof E126 (lp126 m)) N2 (contOf E126 G126 L m (lp126 n) (rk126 L R n N))
noncomputable def LOOPN126 (L : Lp) (R : Option Res → Prop) (n : Nat) (N : St → Prop) (m : Nat) (st : St) : Prop := L (lp126 m) st (contOf E126 G126 L m (lp126 n) (rk126 L R n N))
noncomputable def LOOP126 (L : Lp) (R : Option Res → Prop) (n : Nat) (st : St) : Prop := L (lp126 n) st (ct126 L R n)
theorem hg126 : HG Tryd.prog G126 := (hg_cons h155b hg_nil)
theorem okf126 : Ok Tryd.prog E126 := okf.of Tryd.f126
theorem e126 (L : Lp) (R : Option Res → Prop) (xs ys : List (Elem kb)) : (bodyP Ef G126 L Tryd.f126 [.rsl kb xs, .fn 127 [.rpt [.rsl kb ys]]] [] R) = (
    br (decide (xs.length ≤ 1048576) && decide (ys.length ≤ 1048576)) (R (some { av := vB (decide ((fIx xs.length fun i => !ldB ys ys.length (atB xs i)) ≥ 0)), obs := [], outs := [] })) False) := by kernel_rfl
theorem h126 : G1Ok Tryd.prog 126 g126 := by
  intro args obs k h
  unfold g126 at h
  split at h
  · rename_i k xs ys
    obtain ⟨hl, h⟩ := br_and h
    refine ⟨_, ctr_fn okf hg126 Tryd.func126 (by kernel_rfl) (by kernel_rfl) (by kernel_rfl) fun C => ?_, h⟩
    rw [e126]
    refine br_t hl ?_
    show _ = _
    rw [fIx_ge]
  · exact h.elim
noncomputable def E54 : Env := Ef.of Tryd.f54
noncomputable def G54 : Gk := gk [(111, g111), (112, g112)]
noncomputable def lp54 (n : Nat) : Code := (loopOf n (codeOf Tryd.f54)).getD .skip
noncomputable def ct54 (L : Lp) (R : Option Res → Prop) (n : Nat) : Kt := contOf E54 G54 L n (codeOf Tryd.f54) (endK E54 Tryd.f54.results.toList R)
noncomputable def rk54 (L : Lp) (R : Option Res → Prop) (n : Nat) (N : St → Prop) : Kt := rk (jof E54 (lp54 n)) N (ct54 L R n)
noncomputable def rkn54 (L : Lp) (R : Option Res → Prop) (n : Nat) (N : St → Prop) (m : Nat) (N2 : St → Prop) : Kt := rk (jof E54 (lp54 m)) N2 (contOf E54 G54 L m (lp54 n) (rk54 L R n N))
noncomputable def LOOPN54 (L : Lp) (R : Option Res → Prop) (n : Nat) (N : St → Prop) (m : Nat) (st : St) : Prop := L (lp54 m) st (contOf E54 G54 L m (lp54 n) (rk54 L R n N))
noncomputable def LOOP54 (L : Lp) (R : Option Res → Prop) (n : Nat) (st : St) : Prop := L (lp54 n) st (ct54 L R n)
theorem hg54 : HG Tryd.prog G54 := (hg_cons h111 (hg_cons h112 hg_nil))
theorem okf54 : Ok Tryd.prog E54 := okf.of Tryd.f54
theorem e54 (L : Lp) (R : Option Res → Prop) (xs : List (Elem kb)) : (bodyP Ef G54 L Tryd.f54 [.agg [.rsl kb xs]] [] R) = (
    br (decide ((↑xs.length : Int) > 6)) (R (some { av := vB false, obs := [], outs := [] })) (LOOP54 L R 4 { tm := [vJ, AV.ptr 0 0, vJ, vI 0, vJ, vJ, vJ, vJ, vJ, vJ, vJ, vJ, vJ, vJ, vJ, vJ, vJ, vJ, vJ, vJ, vJ, vJ, vJ, vJ, vJ, vJ, vJ, vJ, vJ, vJ, vJ, vJ, vJ, vJ, vJ, vJ, vJ, vJ, vJ, vJ, vJ, vJ, vJ, vJ, vJ, vJ, vJ, vJ, vJ, vJ, vJ, vJ, vJ, vJ, vJ, vJ, vJ, vJ, vJ, vJ, vJ, vJ, vJ, vJ, vJ, vJ, vJ, vJ, vJ, vJ, vJ, vJ, vJ, vJ, vJ, vJ, vJ, vJ], ob := [(0, AO.box [AV.rsl kb xs])], nx := 1000000, ps := [] })) := by kernel_rfl
def st54 (xs : List (Elem kb)) (i : Int) : St :=  ⟨[vJ, AV.ptr 0 0, vJ, .val (.int .i64 i), vJ, vJ, vJ, vJ, vJ, vJ, vJ, vJ, vJ, vJ, vJ, vJ, vJ, vJ, vJ, vJ, vJ, vJ, vJ, vJ, vJ, vJ, vJ, vJ, vJ, vJ, vJ, vJ, vJ, vJ, vJ, vJ, vJ, vJ, vJ, vJ, vJ, vJ, vJ, vJ, vJ, vJ, vJ, vJ, vJ, vJ, vJ, vJ, vJ, vJ, vJ, vJ, vJ, vJ, vJ, vJ, vJ, vJ, vJ, vJ, vJ, vJ, vJ, vJ, vJ, vJ, vJ, vJ, vJ, vJ, vJ, vJ, vJ, vJ], [(0, AO.box [AV.rsl kb xs])], 1000000, []⟩
theorem b54 (L : Lp) (R : Option Res → Prop) (N : St → Prop) (xs : List (Elem kb)) (i : Int) : (evP E54 G54 L (lp54 4) (st54 xs i) (rk54 L R 4 N)) = (
    br (decide (i < (↑xs.length : Int))) (br (decide (0 ≤ i ∧ i < (↑xs.length : Int))) (br (decide (ByteArray.size (xs.getD i.toNat (edflt kb)).fst ≤ 1048576)) (br (!nameOk (xs.getD i.toNat (edflt kb)).fst) (R (some { av := vB false, obs := [], outs := [] })) (br (decide (i > 0)) (br (decide (0 ≤ IntKind.i64.wrap (i - 1) ∧ IntKind.i64.wrap (i - 1) < (↑xs.length : Int))) (br (strLt (xs.getD i.toNat (edflt kb)).fst (xs.getD (IntKind.i64.wrap (i - 1)).toNat (edflt kb)).fst || strEq (xs.getD i.toNat (edflt kb)).fst (xs.getD (IntKind.i64.wrap (i - 1)).toNat (edflt kb)).fst) (R (some { av := vB false, obs := [], outs := [] })) (br (decide ((xs.getD i.toNat (edflt kb)).snd.fst < 1)) (R (some { av := vB false, obs := [], outs := [] })) (br (decide ((xs.getD i.toNat (edflt kb)).snd.fst > 2)) (R (some { av := vB false, obs := [], outs := [] })) (LOOPN54 L R 4 N 10 { tm := [vJ, AV.ptr 0 0, vJ, vI i, AV.ptr 1 0, vI 0, vJ, vJ, vJ, vJ, vJ, vJ, vJ, vJ, vJ, vJ, vJ, vJ, vJ, vJ, vJ, vJ, vJ, vJ, vJ, vJ, vJ, vJ, vJ, vJ, vJ, vJ, vJ, vJ, vJ, vJ, vJ, vJ, vJ, vJ, vJ, vJ, vJ, vJ, vJ, vJ, vJ, vJ, vJ, vJ, vJ, vJ, vJ, vJ, vJ, vJ, vJ, vJ, vJ, vJ, vJ, vJ, vJ, vJ, vJ, vJ, vJ, vJ, vJ, vJ, vJ, vJ, vJ, vJ, vJ, vJ, vJ, vJ], ob := [(0, AO.box [AV.rsl kb xs]), (1, AO.box [vS (xs.getD i.toNat (edflt kb)).fst, vI (xs.getD i.toNat (edflt kb)).snd.fst, vS (xs.getD i.toNat (edflt kb)).snd.snd.fst, vS (xs.getD i.toNat (edflt kb)).snd.snd.snd.fst, vS (xs.getD i.toNat (edflt kb)).snd.snd.snd.snd.fst, vS (xs.getD i.toNat (edflt kb)).snd.snd.snd.snd.snd.fst, vS (xs.getD i.toNat (edflt kb)).snd.snd.snd.snd.snd.snd.fst, vS (xs.getD i.toNat (edflt kb)).snd.snd.snd.snd.snd.snd.snd.fst, vS (xs.getD i.toNat (edflt kb)).snd.snd.snd.snd.snd.snd.snd.snd.fst, vS (xs.getD i.toNat (edflt kb)).snd.snd.snd.snd.snd.snd.snd.snd.snd.fst, vS (xs.getD i.toNat (edflt kb)).snd.snd.snd.snd.snd.snd.snd.snd.snd.snd.fst])], nx := 1000000, ps := [] })))) False) (br (decide ((xs.getD i.toNat (edflt kb)).snd.fst < 1)) (R (some { av := vB false, obs := [], outs := [] })) (br (decide ((xs.getD i.toNat (edflt kb)).snd.fst > 2)) (R (some { av := vB false, obs := [], outs := [] })) (LOOPN54 L R 4 N 10 { tm := [vJ, AV.ptr 0 0, vJ, vI i, AV.ptr 1 0, vI 0, vJ, vJ, vJ, vJ, vJ, vJ, vJ, vJ, vJ, vJ, vJ, vJ, vJ, vJ, vJ, vJ, vJ, vJ, vJ, vJ, vJ, vJ, vJ, vJ, vJ, vJ, vJ, vJ, vJ, vJ, vJ, vJ, vJ, vJ, vJ, vJ, vJ, vJ, vJ, vJ, vJ, vJ, vJ, vJ, vJ, vJ, vJ, vJ, vJ, vJ, vJ, vJ, vJ, vJ, vJ, vJ, vJ, vJ, vJ, vJ, vJ, vJ, vJ, vJ, vJ, vJ, vJ, vJ, vJ, vJ, vJ, vJ], ob := [(0, AO.box [AV.rsl kb xs]), (1, AO.box [vS (xs.getD i.toNat (edflt kb)).fst, vI (xs.getD i.toNat (edflt kb)).snd.fst, vS (xs.getD i.toNat (edflt kb)).snd.snd.fst, vS (xs.getD i.toNat (edflt kb)).snd.snd.snd.fst, vS (xs.getD i.toNat (edflt kb)).snd.snd.snd.snd.fst, vS (xs.getD i.toNat (edflt kb)).snd.snd.snd.snd.snd.fst, vS (xs.getD i.toNat (edflt kb)).snd.snd.snd.snd.snd.snd.fst, vS (xs.getD i.toNat (edflt kb)).snd.snd.snd.snd.snd.snd.snd.fst, vS (xs.getD i.toNat (edflt kb)).snd.snd.snd.snd.snd.snd.snd.snd.fst, vS (xs.getD i.toNat (edflt kb)).snd.snd.snd.snd.snd.snd.snd.snd.snd.fst, vS (xs.getD i.toNat (edflt kb)).snd.snd.snd.snd.snd.snd.snd.snd.snd.snd.fst])], nx := 1000000, ps := [] }))))) False) False) (LOOP54 L R 15 { tm := [vJ, AV.ptr 0 0, vJ, vJ, vJ, vJ, vI 0, vJ, vJ, vJ, vJ, vJ, vJ, vJ, vJ, vJ, vJ, vJ, vJ, vJ, vJ, vJ, vJ, vJ, vJ, vJ, vJ, vJ, vJ, vJ, vJ, vJ, vJ, vJ, vJ, vJ, vJ, vJ, vJ, vJ, vJ, vJ, vJ, vJ, vJ, vJ, vJ, vJ, vJ, vJ, vJ, vJ, vJ, vJ, vJ, vJ, vJ, vJ, vJ, vJ, vJ, vJ, vJ, vJ, vJ, vJ, vJ, vJ, vJ, vJ, vJ, vJ, vJ, vJ, vJ, vJ, vJ, vJ], ob := [(0, AO.box [AV.rsl kb xs])], nx := 1000000, ps := [] })) := by kernel_rfl
def si54 (xs : List (Elem kb)) (q : Int) (e : Elem kb) (j : Int) : St :=  ⟨[vJ, AV.ptr 0 0, vJ, .val (.int .i64 q), AV.ptr 1 0, .val (.int .i64 j), vJ, vJ, vJ, vJ, vJ, vJ, vJ, vJ, vJ, vJ, vJ, vJ, vJ, vJ, vJ, vJ, vJ, vJ, vJ, vJ, vJ, vJ, vJ, vJ, vJ, vJ, vJ, vJ, vJ, vJ, vJ, vJ, vJ, vJ, vJ, vJ, vJ, vJ, vJ, vJ, vJ, vJ, vJ, vJ, vJ, vJ, vJ, vJ, vJ, vJ, vJ, vJ, vJ, vJ, vJ, vJ, vJ, vJ, vJ, vJ, vJ, vJ, vJ, vJ, vJ, vJ, vJ, vJ, vJ, vJ, vJ, vJ], [(0, AO.box [AV.rsl kb xs]), (1, .box (setC e))], 1000000, []⟩
theorem bi54_0 (L : Lp) (R : Option Res → Prop) (N N2 : St → Prop) (xs : List (Elem kb)) (q : Int) (e : Elem kb) : (evP E54 G54 L (lp54 10) (si54 xs q e 0) (rkn54 L R 4 N 10 N2)) = (
    br (decide ((↑(ByteArray.size e.snd.snd.snd.fst) : Int) > 24)) (R (some { av := vB false, obs := [], outs := [] })) (N2 { tm := [vJ, AV.ptr 0 0, vJ, vI q, AV.ptr 1 0, vI 1, vJ, vJ, vJ, vJ, vJ, vJ, vJ, vJ, vJ, vJ, vJ, vJ, vJ, vJ, vJ, vJ, vJ, vJ, vJ, vJ, vJ, vJ, vJ, vJ, vJ, vJ, vJ, vJ, vJ, vJ, vJ, vJ, vJ, vJ, vJ, vJ, vJ, vJ, vJ, vJ, vJ, vJ, vJ, vJ, vJ, vJ, vJ, vJ, vJ, vJ, vJ, vJ, vJ, vJ, vJ, vJ, vJ, vJ, vJ, vJ, vJ, vJ, vJ, vJ, vJ, vJ, vJ, vJ, vJ, vJ, vJ, vJ], ob := [(0, AO.box [AV.rsl kb xs]), (1, AO.box [vS e.fst, vI e.snd.fst, vS e.snd.snd.fst, vS e.snd.snd.snd.fst, vS e.snd.snd.snd.snd.fst, vS e.snd.snd.snd.snd.snd.fst, vS e.snd.snd.snd.snd.snd.snd.fst, vS e.snd.snd.snd.snd.snd.snd.snd.fst, vS e.snd.snd.snd.snd.snd.snd.snd.snd.fst, vS e.snd.snd.snd.snd.snd.snd.snd.snd.snd.fst, vS e.snd.snd.snd.snd.snd.snd.snd.snd.snd.snd.fst])], nx := 1000000, ps := [] })) := by kernel_rfl
theorem bi54_1 (L : Lp) (R : Option Res → Prop) (N N2 : St → Prop) (xs : List (Elem kb)) (q : Int) (e : Elem kb) : (evP E54 G54 L (lp54 10) (si54 xs q e 1) (rkn54 L R 4 N 10 N2)) = (
    br (decide ((↑(ByteArray.size e.snd.snd.snd.snd.fst) : Int) > 24)) (R (some { av := vB false, obs := [], outs := [] })) (N2 { tm := [vJ, AV.ptr 0 0, vJ, vI q, AV.ptr 1 0, vI 2, vJ, vJ, vJ, vJ, vJ, vJ, vJ, vJ, vJ, vJ, vJ, vJ, vJ, vJ, vJ, vJ, vJ, vJ, vJ, vJ, vJ, vJ, vJ, vJ, vJ, vJ, vJ, vJ, vJ, vJ, vJ, vJ, vJ, vJ, vJ, vJ, vJ, vJ, vJ, vJ, vJ, vJ, vJ, vJ, vJ, vJ, vJ, vJ, vJ, vJ, vJ, vJ, vJ, vJ, vJ, vJ, vJ, vJ, vJ, vJ, vJ, vJ, vJ, vJ, vJ, vJ, vJ, vJ, vJ, vJ, vJ, vJ], ob := [(0, AO.box [AV.rsl kb xs]), (1, AO.box [vS e.fst, vI e.snd.fst, vS e.snd.snd.fst, vS e.snd.snd.snd.fst, vS e.snd.snd.snd.snd.fst, vS e.snd.snd.snd.snd.snd.fst, vS e.snd.snd.snd.snd.snd.snd.fst, vS e.snd.snd.snd.snd.snd.snd.snd.fst, vS e.snd.snd.snd.snd.snd.snd.snd.snd.fst, vS e.snd.snd.snd.snd.snd.snd.snd.snd.snd.fst, vS e.snd.snd.snd.snd.snd.snd.snd.snd.snd.snd.fst])], nx := 1000000, ps := [] })) := by kernel_rfl
theorem bi54_2 (L : Lp) (R : Option Res → Prop) (N N2 : St → Prop) (xs : List (Elem kb)) (q : Int) (e : Elem kb) : (evP E54 G54 L (lp54 10) (si54 xs q e 2) (rkn54 L R 4 N 10 N2)) = (
    br (decide ((↑(ByteArray.size e.snd.snd.snd.snd.snd.fst) : Int) > 24)) (R (some { av := vB false, obs := [], outs := [] })) (N2 { tm := [vJ, AV.ptr 0 0, vJ, vI q, AV.ptr 1 0, vI 3, vJ, vJ, vJ, vJ, vJ, vJ, vJ, vJ, vJ, vJ, vJ, vJ, vJ, vJ, vJ, vJ, vJ, vJ, vJ, vJ, vJ, vJ, vJ, vJ, vJ, vJ, vJ, vJ, vJ, vJ, vJ, vJ, vJ, vJ, vJ, vJ, vJ, vJ, vJ, vJ, vJ, vJ, vJ, vJ, vJ, vJ, vJ, vJ, vJ, vJ, vJ, vJ, vJ, vJ, vJ, vJ, vJ, vJ, vJ, vJ, vJ, vJ, vJ, vJ, vJ, vJ, vJ, vJ, vJ, vJ, vJ, vJ], ob := [(0, AO.box [AV.rsl kb xs]), (1, AO.box [vS e.fst, vI e.snd.fst, vS e.snd.snd.fst, vS e.snd.snd.snd.fst, vS e.snd.snd.snd.snd.fst, vS e.snd.snd.snd.snd.snd.fst, vS e.snd.snd.snd.snd.snd.snd.fst, vS e.snd.snd.snd.snd.snd.snd.snd.fst, vS e.snd.snd.snd.snd.snd.snd.snd.snd.fst, vS e.snd.snd.snd.snd.snd.snd.snd.snd.snd.fst, vS e.snd.snd.snd.snd.snd.snd.snd.snd.snd.snd.fst])], nx := 1000000, ps := [] })) := by kernel_rfl
theorem bi54_3 (L : Lp) (R : Option Res → Prop) (N N2 : St → Prop) (xs : List (Elem kb)) (q : Int) (e : Elem kb) : (evP E54 G54 L (lp54 10) (si54 xs q e 3) (rkn54 L R 4 N 10 N2)) = (
    br (decide ((↑(ByteArray.size e.snd.snd.snd.snd.snd.snd.fst) : Int) > 24)) (R (some { av := vB false, obs := [], outs := [] })) (N2 { tm := [vJ, AV.ptr 0 0, vJ, vI q, AV.ptr 1 0, vI 4, vJ, vJ, vJ, vJ, vJ, vJ, vJ, vJ, vJ, vJ, vJ, vJ, vJ, vJ, vJ, vJ, vJ, vJ, vJ, vJ, vJ, vJ, vJ, vJ, vJ, vJ, vJ, vJ, vJ, vJ, vJ, vJ, vJ, vJ, vJ, vJ, vJ, vJ, vJ, vJ, vJ, vJ, vJ, vJ, vJ, vJ, vJ, vJ, vJ, vJ, vJ, vJ, vJ, vJ, vJ, vJ, vJ, vJ, vJ, vJ, vJ, vJ, vJ, vJ, vJ, vJ, vJ, vJ, vJ, vJ, vJ, vJ], ob := [(0, AO.box [AV.rsl kb xs]), (1, AO.box [vS e.fst, vI e.snd.fst, vS e.snd.snd.fst, vS e.snd.snd.snd.fst, vS e.snd.snd.snd.snd.fst, vS e.snd.snd.snd.snd.snd.fst, vS e.snd.snd.snd.snd.snd.snd.fst, vS e.snd.snd.snd.snd.snd.snd.snd.fst, vS e.snd.snd.snd.snd.snd.snd.snd.snd.fst, vS e.snd.snd.snd.snd.snd.snd.snd.snd.snd.fst, vS e.snd.snd.snd.snd.snd.snd.snd.snd.snd.snd.fst])], nx := 1000000, ps := [] })) := by kernel_rfl
theorem bi54_4 (L : Lp) (R : Option Res → Prop) (N N2 : St → Prop) (xs : List (Elem kb)) (q : Int) (e : Elem kb) : (evP E54 G54 L (lp54 10) (si54 xs q e 4) (rkn54 L R 4 N 10 N2)) = (
    br (decide ((↑(ByteArray.size e.snd.snd.snd.snd.snd.snd.snd.fst) : Int) > 24)) (R (some { av := vB false, obs := [], outs := [] })) (N2 { tm := [vJ, AV.ptr 0 0, vJ, vI q, AV.ptr 1 0, vI 5, vJ, vJ, vJ, vJ, vJ, vJ, vJ, vJ, vJ, vJ, vJ, vJ, vJ, vJ, vJ, vJ, vJ, vJ, vJ, vJ, vJ, vJ, vJ, vJ, vJ, vJ, vJ, vJ, vJ, vJ, vJ, vJ, vJ, vJ, vJ, vJ, vJ, vJ, vJ, vJ, vJ, vJ, vJ, vJ, vJ, vJ, vJ, vJ, vJ, vJ, vJ, vJ, vJ, vJ, vJ, vJ, vJ, vJ, vJ, vJ, vJ, vJ, vJ, vJ, vJ, vJ, vJ, vJ, vJ, vJ, vJ, vJ], ob := [(0, AO.box [AV.rsl kb xs]), (1, AO.box [vS e.fst, vI e.snd.fst, vS e.snd.snd.fst, vS e.snd.snd.snd.fst, vS e.snd.snd.snd.snd.fst, vS e.snd.snd.snd.snd.snd.fst, vS e.snd.snd.snd.snd.snd.snd.fst, vS e.snd.snd.snd.snd.snd.snd.snd.fst, vS e.snd.snd.snd.snd.snd.snd.snd.snd.fst, vS e.snd.snd.snd.snd.snd.snd.snd.snd.snd.fst, vS e.snd.snd.snd.snd.snd.snd.snd.snd.snd.snd.fst])], nx := 1000000, ps := [] })) := by kernel_rfl
theorem bi54_5 (L : Lp) (R : Option Res → Prop) (N N2 : St → Prop) (xs : List (Elem kb)) (q : Int) (e : Elem kb) : (evP E54 G54 L (lp54 10) (si54 xs q e 5) (rkn54 L R 4 N 10 N2)) = (
    br (decide ((↑(ByteArray.size e.snd.snd.snd.snd.snd.snd.snd.snd.fst) : Int) > 24)) (R (some { av := vB false, obs := [], outs := [] })) (N2 { tm := [vJ, AV.ptr 0 0, vJ, vI q, AV.ptr 1 0, vI 6, vJ, vJ, vJ, vJ, vJ, vJ, vJ, vJ, vJ, vJ, vJ, vJ, vJ, vJ, vJ, vJ, vJ, vJ, vJ, vJ, vJ, vJ, vJ, vJ, vJ, vJ, vJ, vJ, vJ, vJ, vJ, vJ, vJ, vJ, vJ, vJ, vJ, vJ, vJ, vJ, vJ, vJ, vJ, vJ, vJ, vJ, vJ, vJ, vJ, vJ, vJ, vJ, vJ, vJ, vJ, vJ, vJ, vJ, vJ, vJ, vJ, vJ, vJ, vJ, vJ, vJ, vJ, vJ, vJ, vJ, vJ, vJ], ob := [(0, AO.box [AV.rsl kb xs]), (1, AO.box [vS e.fst, vI e.snd.fst, vS e.snd.snd.fst, vS e.snd.snd.snd.fst, vS e.snd.snd.snd.snd.fst, vS e.snd.snd.snd.snd.snd.fst, vS e.snd.snd.snd.snd.snd.snd.fst, vS e.snd.snd.snd.snd.snd.snd.snd.fst, vS e.snd.snd.snd.snd.snd.snd.snd.snd.fst, vS e.snd.snd.snd.snd.snd.snd.snd.snd.snd.fst, vS e.snd.snd.snd.snd.snd.snd.snd.snd.snd.snd.fst])], nx := 1000000, ps := [] })) := by kernel_rfl
theorem bi54_6 (L : Lp) (R : Option Res → Prop) (N N2 : St → Prop) (xs : List (Elem kb)) (q : Int) (e : Elem kb) : (evP E54 G54 L (lp54 10) (si54 xs q e 6) (rkn54 L R 4 N 10 N2)) = (
    br (decide ((↑(ByteArray.size e.snd.snd.snd.snd.snd.snd.snd.snd.snd.fst) : Int) > 24)) (R (some { av := vB false, obs := [], outs := [] })) (N2 { tm := [vJ, AV.ptr 0 0, vJ, vI q, AV.ptr 1 0, vI 7, vJ, vJ, vJ, vJ, vJ, vJ, vJ, vJ, vJ, vJ, vJ, vJ, vJ, vJ, vJ, vJ, vJ, vJ, vJ, vJ, vJ, vJ, vJ, vJ, vJ, vJ, vJ, vJ, vJ, vJ, vJ, vJ, vJ, vJ, vJ, vJ, vJ, vJ, vJ, vJ, vJ, vJ, vJ, vJ, vJ, vJ, vJ, vJ, vJ, vJ, vJ, vJ, vJ, vJ, vJ, vJ, vJ, vJ, vJ, vJ, vJ, vJ, vJ, vJ, vJ, vJ, vJ, vJ, vJ, vJ, vJ, vJ], ob := [(0, AO.box [AV.rsl kb xs]), (1, AO.box [vS e.fst, vI e.snd.fst, vS e.snd.snd.fst, vS e.snd.snd.snd.fst, vS e.snd.snd.snd.snd.fst, vS e.snd.snd.snd.snd.snd.fst, vS e.snd.snd.snd.snd.snd.snd.fst, vS e.snd.snd.snd.snd.snd.snd.snd.fst, vS e.snd.snd.snd.snd.snd.snd.snd.snd.fst, vS e.snd.snd.snd.snd.snd.snd.snd.snd.snd.fst, vS e.snd.snd.snd.snd.snd.snd.snd.snd.snd.snd.fst])], nx := 1000000, ps := [] })) := by kernel_rfl
theorem bi54_7 (L : Lp) (R : Option Res → Prop) (N N2 : St → Prop) (xs : List (Elem kb)) (q : Int) (e : Elem kb) : (evP E54 G54 L (lp54 10) (si54 xs q e 7) (rkn54 L R 4 N 10 N2)) = (
    br (decide ((↑(ByteArray.size e.snd.snd.snd.snd.snd.snd.snd.snd.snd.snd.fst) : Int) > 24)) (R (some { av := vB false, obs := [], outs := [] })) (N2 { tm := [vJ, AV.ptr 0 0, vJ, vI q, AV.ptr 1 0, vI 8, vJ, vJ, vJ, vJ, vJ, vJ, vJ, vJ, vJ, vJ, vJ, vJ, vJ, vJ, vJ, vJ, vJ, vJ, vJ, vJ, vJ, vJ, vJ, vJ, vJ, vJ, vJ, vJ, vJ, vJ, vJ, vJ, vJ, vJ, vJ, vJ, vJ, vJ, vJ, vJ, vJ, vJ, vJ, vJ, vJ, vJ, vJ, vJ, vJ, vJ, vJ, vJ, vJ, vJ, vJ, vJ, vJ, vJ, vJ, vJ, vJ, vJ, vJ, vJ, vJ, vJ, vJ, vJ, vJ, vJ, vJ, vJ], ob := [(0, AO.box [AV.rsl kb xs]), (1, AO.box [vS e.fst, vI e.snd.fst, vS e.snd.snd.fst, vS e.snd.snd.snd.fst, vS e.snd.snd.snd.snd.fst, vS e.snd.snd.snd.snd.snd.fst, vS e.snd.snd.snd.snd.snd.snd.fst, vS e.snd.snd.snd.snd.snd.snd.snd.fst, vS e.snd.snd.snd.snd.snd.snd.snd.snd.fst, vS e.snd.snd.snd.snd.snd.snd.snd.snd.snd.fst, vS e.snd.snd.snd.snd.snd.snd.snd.snd.snd.snd.fst])], nx := 1000000, ps := [] })) := by kernel_rfl
theorem bi54_8 (L : Lp) (R : Option Res → Prop) (N N2 : St → Prop) (xs : List (Elem kb)) (q : Int) (e : Elem kb) : (evP E54 G54 L (lp54 10) (si54 xs q e 8) (rkn54 L R 4 N 10 N2)) = (
    N { tm := [vJ, AV.ptr 0 0, vJ, vI (IntKind.i64.wrap (q + 1)), vJ, vJ, vJ, vJ, vJ, vJ, vJ, vJ, vJ, vJ, vJ, vJ, vJ, vJ, vJ, vJ, vJ, vJ, vJ, vJ, vJ, vJ, vJ, vJ, vJ, vJ, vJ, vJ, vJ, vJ, vJ, vJ, vJ, vJ, vJ, vJ, vJ, vJ, vJ, vJ, vJ, vJ, vJ, vJ, vJ, vJ, vJ, vJ, vJ, vJ, vJ, vJ, vJ, vJ, vJ, vJ, vJ, vJ, vJ, vJ, vJ, vJ, vJ, vJ, vJ, vJ, vJ, vJ, vJ, vJ, vJ, vJ, vJ, vJ], ob := [(0, AO.box [AV.rsl kb xs])], nx := 1000000, ps := [] }) := by kernel_rfl
def sr54 (xs : List (Elem kb)) (j : Int) : St :=  ⟨[vJ, AV.ptr 0 0, vJ, vJ, vJ, vJ, .val (.int .i64 j), vJ, vJ, vJ, vJ, vJ, vJ, vJ, vJ, vJ, vJ, vJ, vJ, vJ, vJ, vJ, vJ, vJ, vJ, vJ, vJ, vJ, vJ, vJ, vJ, vJ, vJ, vJ, vJ, vJ, vJ, vJ, vJ, vJ, vJ, vJ, vJ, vJ, vJ, vJ, vJ, vJ, vJ, vJ, vJ, vJ, vJ, vJ, vJ, vJ, vJ, vJ, vJ, vJ, vJ, vJ, vJ, vJ, vJ, vJ, vJ, vJ, vJ, vJ, vJ, vJ, vJ, vJ, vJ, vJ, vJ, vJ], [(0, AO.box [AV.rsl kb xs])], 1000000, []⟩
theorem br54 (L : Lp) (R : Option Res → Prop) (N : St → Prop) (xs : List (Elem kb)) (j : Int) : (evP E54 G54 L (lp54 15) (sr54 xs j) (rk54 L R 15 N)) = (
    br (decide (j < (↑xs.length : Int))) (br (decide (0 ≤ j ∧ j < (↑xs.length : Int))) (br (decide (xs.length ≤ 1048576)) (br (!rtB xs (xs.length + 1) (xs.getD j.toNat (edflt kb))) (R (some { av := vB false, obs := [], outs := [] })) (N { tm := [vJ, AV.ptr 0 0, vJ, vJ, vJ, vJ, vI (IntKind.i64.wrap (j + 1)), vJ, vJ, vJ, vJ, vJ, vJ, vJ, vJ, vJ, vJ, vJ, vJ, vJ, vJ, vJ, vJ, vJ, vJ, vJ, vJ, vJ, vJ, vJ, vJ, vJ, vJ, vJ, vJ, vJ, vJ, vJ, vJ, vJ, vJ, vJ, vJ, vJ, vJ, vJ, vJ, vJ, vJ, vJ, vJ, vJ, vJ, vJ, vJ, vJ, vJ, vJ, vJ, vJ, vJ, vJ, vJ, vJ, vJ, vJ, vJ, vJ, vJ, vJ, vJ, vJ, vJ, vJ, vJ, vJ, vJ, vJ], ob := [(0, AO.box [AV.rsl kb xs])], nx := 1000000, ps := [] })) False) False) (R (some { av := vB true, obs := [], outs := [] }))) := by kernel_rfl
theorem kindF {n : Int} (h : n < 1 ∨ n > 2) : (n == 1 || n == 2) = false := by
  rw [show (n == 1) = false from beq_eq_false_iff_ne.2 (by omega), show (n == 2) = false from beq_eq_false_iff_ne.2 (by omega)]; rfl
theorem kindT {n : Int} (h1 : ¬ n < 1) (h2 : ¬ n > 2) : (n == 1 || n == 2) = true := by
  rw [Bool.or_eq_true, beq_iff_eq, beq_iff_eq]
  omega
theorem smB_len {xs : List (Elem kb)} (h : smB xs = true) : xs.length ≤ 1048576 := by
  unfold smB at h
  rw [Bool.and_eq_true] at h
  exact of_decide_eq_true h.1
theorem smB_at {xs : List (Elem kb)} (h : smB xs = true) {i : Nat} (hi : i < xs.length) : decide ((atB xs i).1.size ≤ 1048576) = true := by
  unfold smB at h
  rw [Bool.and_eq_true] at h
  exact all_at h.2 (edflt kb) hi
def ord (xs : List (Elem kb)) (i : Nat) : Bool := i == 0 || strLt (atB xs (i - 1)).1 (atB xs i).1
theorem set1_n {xs : List (Elem kb)} {i : Nat} (h : nameOk (atB xs i).1 = false) : set1 xs i = false := by unfold set1; rw [h]; rfl
theorem set1_o {xs : List (Elem kb)} {i : Nat} (h : ord xs i = false) : set1 xs i = false := by unfold set1; unfold ord at h; rw [h]; simp
theorem set1_k {xs : List (Elem kb)} {i : Nat} (h : ((atB xs i).2.1 == 1 || (atB xs i).2.1 == 2) = false) : set1 xs i = false := by unfold set1; rw [h]; simp
theorem set1_b {xs : List (Elem kb)} {i : Nat} (h : (allB 8 fun j => decide (((at1 (bks (atB xs i)) j).size : Int) ≤ 24)) = false) : set1 xs i = false := by unfold set1; rw [h]; simp
theorem set1_t {xs : List (Elem kb)} {i : Nat} (h1 : nameOk (atB xs i).1 = true) (h2 : ord xs i = true) (h3 : ((atB xs i).2.1 == 1 || (atB xs i).2.1 == 2) = true) (h4 : (allB 8 fun j => decide (((at1 (bks (atB xs i)) j).size : Int) ≤ 24)) = true) : set1 xs i = true := by
  unfold ord at h2
  unfold set1
  rw [h1, h2, h3, h4]
  rfl
theorem strLe_not (a b : ByteArray) : (strLt a b || strEq a b) = !strLt b a := by
  rcases strLt_tri a b with h | h | h
  · rw [h, strLt_asymm h]; rfl
  · subst h; rw [strLt_irrefl, strEq_self]; rfl
  · rw [h, strLt_asymm h, strEq_dec, decide_eq_false (fun e => by subst e; rw [strLt_irrefl] at h; cases h)]; rfl
theorem ord_0 (xs : List (Elem kb)) {i : Nat} (h : ¬ (i : Int) > 0) : ord xs i = true := by
  have : i = 0 := by omega
  subst this
  rfl
theorem ord_s (xs : List (Elem kb)) {i : Nat} (h : (i : Int) > 0) : ord xs i = strLt (atB xs (i - 1)).1 (atB xs i).1 := by
  unfold ord
  rw [show (i == 0) = false from beq_eq_false_iff_ne.2 (by omega), Bool.false_or]
theorem ix_pred {i : Nat} (h : (i : Int) > 0) (h2 : i < 9223372036854775807) : IntKind.i64.wrap ((i : Int) - 1) = ((i - 1 : Nat) : Int) := by
  rw [wrap_id (by omega) (by omega)]; omega
theorem bookOk_t {xs : List (Elem kb)} (h0 : ¬ (xs.length : Int) > 6) (h1 : allB xs.length (set1 xs) = true) : bookOk xs = allB xs.length fun i => rtB xs (xs.length + 1) (atB xs i) := by
  unfold bookOk
  rw [decide_eq_true (show (xs.length : Int) ≤ 6 by omega), h1]
  rfl
theorem bookOk_f {xs : List (Elem kb)} (h1 : allB xs.length (set1 xs) = false) : bookOk xs = false := by
  unfold bookOk
  rw [h1]
  simp
theorem bookOk_0 {xs : List (Elem kb)} (h1 : (xs.length : Int) > 6) : bookOk xs = false := by
  unfold bookOk
  rw [decide_eq_false (show ¬ (xs.length : Int) ≤ 6 by omega)]
  rfl
theorem h54 : G1Ok Tryd.prog 54 g54 := by
  intro args obs k h
  unfold g54 at h
  split at h
  · rename_i k xs
    obtain ⟨hs, h⟩ := br_and h
    have hlen := smB_len hs
    refine ⟨_, ctr_fn okf hg54 Tryd.func54 (by kernel_rfl) (by kernel_rfl) (by kernel_rfl) fun C => ?_, h⟩
    rw [e54]
    refine br_dec (fun h0 => ?_) (fun h0 => ?_)
    · show _ = _
      rw [bookOk_0 h0]
    refine loopAll okf54 hg54 (st54 xs) xs.length (set1 xs) (by omega) (fun N i hi hw next fails done => ?_)
    show evP E54 G54 _ (lp54 4) (st54 xs i) (rk54 _ _ 4 _)
    rw [b54, Int.toNat_natCast]
    refine br_dec (fun h2 => br_yes ⟨by omega, h2⟩ (br_t (smB_at hs (by omega)) (br_not (fun h3 => ?_) (fun h3 => (fun (tail : ord xs i = true → _) => br_dec (fun h4 => ?_) (fun h4 => tail (ord_0 xs h4))) (fun ho => ?_))))) (fun h2 => ?_)
    · show _ = _
      rw [bookOk_f (fails (by omega) (set1_n h3))]
    · rw [ix_pred h4 (by omega), Int.toNat_natCast, strLe_not]
      refine br_yes ⟨by omega, by omega⟩ (br_not (fun h5 => ?_) (fun h5 => tail ((ord_s xs h4).trans h5)))
      show _ = _
      rw [bookOk_f (fails (by omega) (set1_o ((ord_s xs h4).trans h5)))]
    · refine br_dec (fun h5 => ?_) (fun h5 => br_dec (fun h6 => ?_) (fun h6 => ?_))
      · show _ = _
        rw [bookOk_f (fails (by omega) (set1_k (kindF (.inl h5))))]
      · show _ = _
        rw [bookOk_f (fails (by omega) (set1_k (kindF (.inr h6))))]
      · have hk : ((atB xs i).2.1 == 1 || (atB xs i).2.1 == 2) = true := kindT h5 h6
        refine loopAll okf54 hg54 (si54 xs i (atB xs i)) 8 (fun j => decide (((at1 (bks (atB xs i)) j).size : Int) ≤ 24)) (by omega) (fun N2 j hj hw2 next2 fails2 done2 => ?_)
        have cs : j = 0 ∨ j = 1 ∨ j = 2 ∨ j = 3 ∨ j = 4 ∨ j = 5 ∨ j = 6 ∨ j = 7 ∨ j = 8 := by omega
        rcases cs with rfl | rfl | rfl | rfl | rfl | rfl | rfl | rfl | rfl
        · show evP E54 G54 _ (lp54 10) (si54 xs i (atB xs i) 0) (rkn54 _ _ 4 N 10 _)
          rw [bi54_0]
          refine br_dec (fun h7 => ?_) (fun h7 => next2 (by omega) (decide_eq_true (show ((at1 (bks (atB xs i)) 0).size : Int) ≤ 24 from by
            have : ¬ ((at1 (bks (atB xs i)) 0).size : Int) > 24 := h7
            omega)))
          show _ = _
          rw [bookOk_f (fails (by omega) (set1_b (fails2 (by omega) (decide_eq_false (show ¬ ((at1 (bks (atB xs i)) 0).size : Int) ≤ 24 from by
            have : ((at1 (bks (atB xs i)) 0).size : Int) > 24 := h7
            omega)))))]
        · show evP E54 G54 _ (lp54 10) (si54 xs i (atB xs i) 1) (rkn54 _ _ 4 N 10 _)
          rw [bi54_1]
          refine br_dec (fun h7 => ?_) (fun h7 => next2 (by omega) (decide_eq_true (show ((at1 (bks (atB xs i)) 1).size : Int) ≤ 24 from by
            have : ¬ ((at1 (bks (atB xs i)) 1).size : Int) > 24 := h7
            omega)))
          show _ = _
          rw [bookOk_f (fails (by omega) (set1_b (fails2 (by omega) (decide_eq_false (show ¬ ((at1 (bks (atB xs i)) 1).size : Int) ≤ 24 from by
            have : ((at1 (bks (atB xs i)) 1).size : Int) > 24 := h7
            omega)))))]
        · show evP E54 G54 _ (lp54 10) (si54 xs i (atB xs i) 2) (rkn54 _ _ 4 N 10 _)
          rw [bi54_2]
          refine br_dec (fun h7 => ?_) (fun h7 => next2 (by omega) (decide_eq_true (show ((at1 (bks (atB xs i)) 2).size : Int) ≤ 24 from by
            have : ¬ ((at1 (bks (atB xs i)) 2).size : Int) > 24 := h7
            omega)))
          show _ = _
          rw [bookOk_f (fails (by omega) (set1_b (fails2 (by omega) (decide_eq_false (show ¬ ((at1 (bks (atB xs i)) 2).size : Int) ≤ 24 from by
            have : ((at1 (bks (atB xs i)) 2).size : Int) > 24 := h7
            omega)))))]
        · show evP E54 G54 _ (lp54 10) (si54 xs i (atB xs i) 3) (rkn54 _ _ 4 N 10 _)
          rw [bi54_3]
          refine br_dec (fun h7 => ?_) (fun h7 => next2 (by omega) (decide_eq_true (show ((at1 (bks (atB xs i)) 3).size : Int) ≤ 24 from by
            have : ¬ ((at1 (bks (atB xs i)) 3).size : Int) > 24 := h7
            omega)))
          show _ = _
          rw [bookOk_f (fails (by omega) (set1_b (fails2 (by omega) (decide_eq_false (show ¬ ((at1 (bks (atB xs i)) 3).size : Int) ≤ 24 from by
            have : ((at1 (bks (atB xs i)) 3).size : Int) > 24 := h7
            omega)))))]
        · show evP E54 G54 _ (lp54 10) (si54 xs i (atB xs i) 4) (rkn54 _ _ 4 N 10 _)
          rw [bi54_4]
          refine br_dec (fun h7 => ?_) (fun h7 => next2 (by omega) (decide_eq_true (show ((at1 (bks (atB xs i)) 4).size : Int) ≤ 24 from by
            have : ¬ ((at1 (bks (atB xs i)) 4).size : Int) > 24 := h7
            omega)))
          show _ = _
          rw [bookOk_f (fails (by omega) (set1_b (fails2 (by omega) (decide_eq_false (show ¬ ((at1 (bks (atB xs i)) 4).size : Int) ≤ 24 from by
            have : ((at1 (bks (atB xs i)) 4).size : Int) > 24 := h7
            omega)))))]
        · show evP E54 G54 _ (lp54 10) (si54 xs i (atB xs i) 5) (rkn54 _ _ 4 N 10 _)
          rw [bi54_5]
          refine br_dec (fun h7 => ?_) (fun h7 => next2 (by omega) (decide_eq_true (show ((at1 (bks (atB xs i)) 5).size : Int) ≤ 24 from by
            have : ¬ ((at1 (bks (atB xs i)) 5).size : Int) > 24 := h7
            omega)))
          show _ = _
          rw [bookOk_f (fails (by omega) (set1_b (fails2 (by omega) (decide_eq_false (show ¬ ((at1 (bks (atB xs i)) 5).size : Int) ≤ 24 from by
            have : ((at1 (bks (atB xs i)) 5).size : Int) > 24 := h7
            omega)))))]
        · show evP E54 G54 _ (lp54 10) (si54 xs i (atB xs i) 6) (rkn54 _ _ 4 N 10 _)
          rw [bi54_6]
          refine br_dec (fun h7 => ?_) (fun h7 => next2 (by omega) (decide_eq_true (show ((at1 (bks (atB xs i)) 6).size : Int) ≤ 24 from by
            have : ¬ ((at1 (bks (atB xs i)) 6).size : Int) > 24 := h7
            omega)))
          show _ = _
          rw [bookOk_f (fails (by omega) (set1_b (fails2 (by omega) (decide_eq_false (show ¬ ((at1 (bks (atB xs i)) 6).size : Int) ≤ 24 from by
            have : ((at1 (bks (atB xs i)) 6).size : Int) > 24 := h7
            omega)))))]
        · show evP E54 G54 _ (lp54 10) (si54 xs i (atB xs i) 7) (rkn54 _ _ 4 N 10 _)
          rw [bi54_7]
          refine br_dec (fun h7 => ?_) (fun h7 => next2 (by omega) (decide_eq_true (show ((at1 (bks (atB xs i)) 7).size : Int) ≤ 24 from by
            have : ¬ ((at1 (bks (atB xs i)) 7).size : Int) > 24 := h7
            omega)))
          show _ = _
          rw [bookOk_f (fails (by omega) (set1_b (fails2 (by omega) (decide_eq_false (show ¬ ((at1 (bks (atB xs i)) 7).size : Int) ≤ 24 from by
            have : ((at1 (bks (atB xs i)) 7).size : Int) > 24 := h7
            omega)))))]
        · show evP E54 G54 _ (lp54 10) (si54 xs i (atB xs i) 8) (rkn54 _ _ 4 N 10 _)
          rw [bi54_8, hw]
          exact next (by omega) (set1_t h3 ho hk (done2 (by omega)))
    · have hall := done (by omega)
      refine loopAll okf54 hg54 (sr54 xs) xs.length (fun i => rtB xs (xs.length + 1) (atB xs i)) (by omega) (fun N2 j hj hw2 next2 fails2 done2 => ?_)
      show evP E54 G54 _ (lp54 15) (sr54 xs j) (rk54 _ _ 15 _)
      rw [br54, hw2, Int.toNat_natCast]
      refine br_dec (fun h3 => br_yes ⟨by omega, h3⟩ (br_yes hlen (br_not (fun h4 => ?_) (fun h4 => next2 (by omega) h4)))) (fun h3 => ?_)
      · show _ = _
        rw [bookOk_t h0 hall, fails2 (by omega) h4]
      · show _ = _
        rw [bookOk_t h0 hall, done2 (by omega)]
  · exact h.elim
noncomputable def E70 : Env := Ef.of Tryd.f70
noncomputable def G70 : Gk := gk [(122, g111), (124, g124), (126, g126)]
noncomputable def lp70 (n : Nat) : Code := (loopOf n (codeOf Tryd.f70)).getD .skip
noncomputable def ct70 (L : Lp) (R : Option Res → Prop) (n : Nat) : Kt := contOf E70 G70 L n (codeOf Tryd.f70) (endK E70 Tryd.f70.results.toList R)
noncomputable def rk70 (L : Lp) (R : Option Res → Prop) (n : Nat) (N : St → Prop) : Kt := rk (jof E70 (lp70 n)) N (ct70 L R n)
noncomputable def rkn70 (L : Lp) (R : Option Res → Prop) (n : Nat) (N : St → Prop) (m : Nat) (N2 : St → Prop) : Kt := rk (jof E70 (lp70 m)) N2 (contOf E70 G70 L m (lp70 n) (rk70 L R n N))
noncomputable def LOOPN70 (L : Lp) (R : Option Res → Prop) (n : Nat) (N : St → Prop) (m : Nat) (st : St) : Prop := L (lp70 m) st (contOf E70 G70 L m (lp70 n) (rk70 L R n N))
noncomputable def LOOP70 (L : Lp) (R : Option Res → Prop) (n : Nat) (st : St) : Prop := L (lp70 n) st (ct70 L R n)
theorem hg70 : HG Tryd.prog G70 := (hg_cons h122 (hg_cons h124 (hg_cons h126 hg_nil)))
theorem okf70 : Ok Tryd.prog E70 := okf.of Tryd.f70
theorem e70 (L : Lp) (R : Option Res → Prop) (xs : List (Elem kb)) : (bodyP Ef G70 L Tryd.f70 [.agg [.rsl kb xs]] [] R) = (
    br (decide ((↑xs.length : Int) > 6)) (R (some { av := vB false, obs := [], outs := [] })) (LOOP70 L R 4 { tm := [vJ, AV.ptr 0 0, vJ, vJ, vJ, vJ, vJ, vJ, vJ, vJ, AV.rsl kb xs, vI (↑xs.length : Int), vI 0, vJ, vJ, vJ, vJ, vJ, vJ, vJ, vJ, vJ, vJ, vJ, vJ, vJ, vJ, vJ, vJ, vJ, vJ, vJ, vJ, vJ, vJ, vJ, vJ, vJ, vJ, vJ, vJ, vJ, vJ, vJ, vJ, vJ, vJ, vJ, vJ, vJ, vJ, vJ, vJ, vJ, vJ, vJ, vJ, vJ], ob := [(0, AO.box [AV.rsl kb xs])], nx := 1000000, ps := [] })) := by kernel_rfl
def st70 (xs : List (Elem kb)) (i : Int) : St :=  ⟨[vJ, AV.ptr 0 0, vJ, vJ, vJ, vJ, vJ, vJ, vJ, vJ, AV.rsl kb xs, vI (↑xs.length : Int), .val (.int .i64 i), vJ, vJ, vJ, vJ, vJ, vJ, vJ, vJ, vJ, vJ, vJ, vJ, vJ, vJ, vJ, vJ, vJ, vJ, vJ, vJ, vJ, vJ, vJ, vJ, vJ, vJ, vJ, vJ, vJ, vJ, vJ, vJ, vJ, vJ, vJ, vJ, vJ, vJ, vJ, vJ, vJ, vJ, vJ, vJ, vJ], [(0, AO.box [AV.rsl kb xs])], 1000000, []⟩
theorem b70 (L : Lp) (R : Option Res → Prop) (N : St → Prop) (xs : List (Elem kb)) (i : Int) : (evP E70 G70 L (lp70 4) (st70 xs i) (rk70 L R 4 N)) = (
    br (decide (i < (↑xs.length : Int))) (br (decide (0 ≤ i ∧ i < (↑xs.length : Int))) (br (decide (ByteArray.size (xs.getD i.toNat (edflt kb)).fst ≤ 1048576)) (br (!nameOk (xs.getD i.toNat (edflt kb)).fst) (R (some { av := vB false, obs := [], outs := [] })) (br (decide (i > 0)) (br (decide (0 ≤ IntKind.i64.wrap (i - 1) ∧ IntKind.i64.wrap (i - 1) < (↑xs.length : Int))) (br (!strLt (xs.getD (IntKind.i64.wrap (i - 1)).toNat (edflt kb)).fst (xs.getD i.toNat (edflt kb)).fst) (R (some { av := vB false, obs := [], outs := [] })) (br ((xs.getD i.toNat (edflt kb)).snd.fst != 1) (br ((xs.getD i.toNat (edflt kb)).snd.fst != 2) (R (some { av := vB false, obs := [], outs := [] })) (br (anyB [((xs.getD i.toNat (edflt kb)).snd.snd.snd.fst, ()), ((xs.getD i.toNat (edflt kb)).snd.snd.snd.snd.fst, ()), ((xs.getD i.toNat (edflt kb)).snd.snd.snd.snd.snd.fst, ()), ((xs.getD i.toNat (edflt kb)).snd.snd.snd.snd.snd.snd.fst, ()), ((xs.getD i.toNat (edflt kb)).snd.snd.snd.snd.snd.snd.snd.fst, ()), ((xs.getD i.toNat (edflt kb)).snd.snd.snd.snd.snd.snd.snd.snd.fst, ()), ((xs.getD i.toNat (edflt kb)).snd.snd.snd.snd.snd.snd.snd.snd.snd.fst, ()), (xs.getD i.toNat (edflt kb)).snd.snd.snd.snd.snd.snd.snd.snd.snd.snd].length fun i_1 => decide ((↑(at1 [((xs.getD i.toNat (edflt kb)).snd.snd.snd.fst, ()), ((xs.getD i.toNat (edflt kb)).snd.snd.snd.snd.fst, ()), ((xs.getD i.toNat (edflt kb)).snd.snd.snd.snd.snd.fst, ()), ((xs.getD i.toNat (edflt kb)).snd.snd.snd.snd.snd.snd.fst, ()), ((xs.getD i.toNat (edflt kb)).snd.snd.snd.snd.snd.snd.snd.fst, ()), ((xs.getD i.toNat (edflt kb)).snd.snd.snd.snd.snd.snd.snd.snd.fst, ()), ((xs.getD i.toNat (edflt kb)).snd.snd.snd.snd.snd.snd.snd.snd.snd.fst, ()), (xs.getD i.toNat (edflt kb)).snd.snd.snd.snd.snd.snd.snd.snd.snd.snd] i_1).size : Int) > 24)) (R (some { av := vB false, obs := [], outs := [] })) (N { tm := [vJ, AV.ptr 0 0, vJ, vJ, vJ, vJ, vJ, vJ, vJ, vJ, AV.rsl kb xs, vI (↑xs.length : Int), vI (IntKind.i64.wrap (i + 1)), vJ, vJ, vJ, vJ, vJ, vJ, vJ, vJ, vJ, vJ, vJ, vJ, vJ, vJ, vJ, vJ, vJ, vJ, vJ, vJ, vJ, vJ, vJ, vJ, vJ, vJ, vJ, vJ, vJ, vJ, vJ, vJ, vJ, vJ, vJ, vJ, vJ, vJ, vJ, vJ, vJ, vJ, vJ, vJ, vJ], ob := [(0, AO.box [AV.rsl kb xs])], nx := 1000000, ps := [] }))) (br (anyB [((xs.getD i.toNat (edflt kb)).snd.snd.snd.fst, ()), ((xs.getD i.toNat (edflt kb)).snd.snd.snd.snd.fst, ()), ((xs.getD i.toNat (edflt kb)).snd.snd.snd.snd.snd.fst, ()), ((xs.getD i.toNat (edflt kb)).snd.snd.snd.snd.snd.snd.fst, ()), ((xs.getD i.toNat (edflt kb)).snd.snd.snd.snd.snd.snd.snd.fst, ()), ((xs.getD i.toNat (edflt kb)).snd.snd.snd.snd.snd.snd.snd.snd.fst, ()), ((xs.getD i.toNat (edflt kb)).snd.snd.snd.snd.snd.snd.snd.snd.snd.fst, ()), (xs.getD i.toNat (edflt kb)).snd.snd.snd.snd.snd.snd.snd.snd.snd.snd].length fun i_1 => decide ((↑(at1 [((xs.getD i.toNat (edflt kb)).snd.snd.snd.fst, ()), ((xs.getD i.toNat (edflt kb)).snd.snd.snd.snd.fst, ()), ((xs.getD i.toNat (edflt kb)).snd.snd.snd.snd.snd.fst, ()), ((xs.getD i.toNat (edflt kb)).snd.snd.snd.snd.snd.snd.fst, ()), ((xs.getD i.toNat (edflt kb)).snd.snd.snd.snd.snd.snd.snd.fst, ()), ((xs.getD i.toNat (edflt kb)).snd.snd.snd.snd.snd.snd.snd.snd.fst, ()), ((xs.getD i.toNat (edflt kb)).snd.snd.snd.snd.snd.snd.snd.snd.snd.fst, ()), (xs.getD i.toNat (edflt kb)).snd.snd.snd.snd.snd.snd.snd.snd.snd.snd] i_1).size : Int) > 24)) (R (some { av := vB false, obs := [], outs := [] })) (N { tm := [vJ, AV.ptr 0 0, vJ, vJ, vJ, vJ, vJ, vJ, vJ, vJ, AV.rsl kb xs, vI (↑xs.length : Int), vI (IntKind.i64.wrap (i + 1)), vJ, vJ, vJ, vJ, vJ, vJ, vJ, vJ, vJ, vJ, vJ, vJ, vJ, vJ, vJ, vJ, vJ, vJ, vJ, vJ, vJ, vJ, vJ, vJ, vJ, vJ, vJ, vJ, vJ, vJ, vJ, vJ, vJ, vJ, vJ, vJ, vJ, vJ, vJ, vJ, vJ, vJ, vJ, vJ, vJ], ob := [(0, AO.box [AV.rsl kb xs])], nx := 1000000, ps := [] })))) False) (br ((xs.getD i.toNat (edflt kb)).snd.fst != 1) (br ((xs.getD i.toNat (edflt kb)).snd.fst != 2) (R (some { av := vB false, obs := [], outs := [] })) (br (anyB [((xs.getD i.toNat (edflt kb)).snd.snd.snd.fst, ()), ((xs.getD i.toNat (edflt kb)).snd.snd.snd.snd.fst, ()), ((xs.getD i.toNat (edflt kb)).snd.snd.snd.snd.snd.fst, ()), ((xs.getD i.toNat (edflt kb)).snd.snd.snd.snd.snd.snd.fst, ()), ((xs.getD i.toNat (edflt kb)).snd.snd.snd.snd.snd.snd.snd.fst, ()), ((xs.getD i.toNat (edflt kb)).snd.snd.snd.snd.snd.snd.snd.snd.fst, ()), ((xs.getD i.toNat (edflt kb)).snd.snd.snd.snd.snd.snd.snd.snd.snd.fst, ()), (xs.getD i.toNat (edflt kb)).snd.snd.snd.snd.snd.snd.snd.snd.snd.snd].length fun i_1 => decide ((↑(at1 [((xs.getD i.toNat (edflt kb)).snd.snd.snd.fst, ()), ((xs.getD i.toNat (edflt kb)).snd.snd.snd.snd.fst, ()), ((xs.getD i.toNat (edflt kb)).snd.snd.snd.snd.snd.fst, ()), ((xs.getD i.toNat (edflt kb)).snd.snd.snd.snd.snd.snd.fst, ()), ((xs.getD i.toNat (edflt kb)).snd.snd.snd.snd.snd.snd.snd.fst, ()), ((xs.getD i.toNat (edflt kb)).snd.snd.snd.snd.snd.snd.snd.snd.fst, ()), ((xs.getD i.toNat (edflt kb)).snd.snd.snd.snd.snd.snd.snd.snd.snd.fst, ()), (xs.getD i.toNat (edflt kb)).snd.snd.snd.snd.snd.snd.snd.snd.snd.snd] i_1).size : Int) > 24)) (R (some { av := vB false, obs := [], outs := [] })) (N { tm := [vJ, AV.ptr 0 0, vJ, vJ, vJ, vJ, vJ, vJ, vJ, vJ, AV.rsl kb xs, vI (↑xs.length : Int), vI (IntKind.i64.wrap (i + 1)), vJ, vJ, vJ, vJ, vJ, vJ, vJ, vJ, vJ, vJ, vJ, vJ, vJ, vJ, vJ, vJ, vJ, vJ, vJ, vJ, vJ, vJ, vJ, vJ, vJ, vJ, vJ, vJ, vJ, vJ, vJ, vJ, vJ, vJ, vJ, vJ, vJ, vJ, vJ, vJ, vJ, vJ, vJ, vJ, vJ], ob := [(0, AO.box [AV.rsl kb xs])], nx := 1000000, ps := [] }))) (br (anyB [((xs.getD i.toNat (edflt kb)).snd.snd.snd.fst, ()), ((xs.getD i.toNat (edflt kb)).snd.snd.snd.snd.fst, ()), ((xs.getD i.toNat (edflt kb)).snd.snd.snd.snd.snd.fst, ()), ((xs.getD i.toNat (edflt kb)).snd.snd.snd.snd.snd.snd.fst, ()), ((xs.getD i.toNat (edflt kb)).snd.snd.snd.snd.snd.snd.snd.fst, ()), ((xs.getD i.toNat (edflt kb)).snd.snd.snd.snd.snd.snd.snd.snd.fst, ()), ((xs.getD i.toNat (edflt kb)).snd.snd.snd.snd.snd.snd.snd.snd.snd.fst, ()), (xs.getD i.toNat (edflt kb)).snd.snd.snd.snd.snd.snd.snd.snd.snd.snd].length fun i_1 => decide ((↑(at1 [((xs.getD i.toNat (edflt kb)).snd.snd.snd.fst, ()), ((xs.getD i.toNat (edflt kb)).snd.snd.snd.snd.fst, ()), ((xs.getD i.toNat (edflt kb)).snd.snd.snd.snd.snd.fst, ()), ((xs.getD i.toNat (edflt kb)).snd.snd.snd.snd.snd.snd.fst, ()), ((xs.getD i.toNat (edflt kb)).snd.snd.snd.snd.snd.snd.snd.fst, ()), ((xs.getD i.toNat (edflt kb)).snd.snd.snd.snd.snd.snd.snd.snd.fst, ()), ((xs.getD i.toNat (edflt kb)).snd.snd.snd.snd.snd.snd.snd.snd.snd.fst, ()), (xs.getD i.toNat (edflt kb)).snd.snd.snd.snd.snd.snd.snd.snd.snd.snd] i_1).size : Int) > 24)) (R (some { av := vB false, obs := [], outs := [] })) (N { tm := [vJ, AV.ptr 0 0, vJ, vJ, vJ, vJ, vJ, vJ, vJ, vJ, AV.rsl kb xs, vI (↑xs.length : Int), vI (IntKind.i64.wrap (i + 1)), vJ, vJ, vJ, vJ, vJ, vJ, vJ, vJ, vJ, vJ, vJ, vJ, vJ, vJ, vJ, vJ, vJ, vJ, vJ, vJ, vJ, vJ, vJ, vJ, vJ, vJ, vJ, vJ, vJ, vJ, vJ, vJ, vJ, vJ, vJ, vJ, vJ, vJ, vJ, vJ, vJ, vJ, vJ, vJ, vJ], ob := [(0, AO.box [AV.rsl kb xs])], nx := 1000000, ps := [] }))))) False) False) (br (decide (xs.length ≤ 1048576) && decide (xs.length ≤ 1048576)) (R (some { av := vB !anyB xs.length fun i => !ldB xs xs.length (atB xs i), obs := [], outs := [] })) False)) := by kernel_rfl
theorem srt {xs : List (Elem kb)} (h : allB xs.length (set1 xs) = true) : ∀ (j i : Nat), i < j → j < xs.length → strLt (atB xs i).1 (atB xs j).1 = true
  | 0, i, hi, _ => absurd hi (by omega)
  | j + 1, i, hi, hj => by
    have h1 := allB_at h hj
    unfold set1 at h1
    simp only [Bool.and_eq_true, Bool.or_eq_true, beq_iff_eq, Nat.add_sub_cancel] at h1
    have h2 : strLt (atB xs j).1 (atB xs (j + 1)).1 = true := by
      rcases h1.1.1.2 with e | e
      · omega
      · exact e
    by_cases e : i = j
    · rw [e]; exact h2
    · exact strLt_trans (srt h j i (by omega) (by omega)) h2
/-- In a valid book a name is found where it belongs. -/
theorem fdB_ln {xs : List (Elem kb)} (h : allB xs.length (set1 xs) = true) (t : ByteArray) : fdB xs t = match okB xs t with | true => some (lnB xs t) | false => none := by
  unfold fdB okB lnB
  refine fd_ln (fun i hi hp => ?_) (fun i j hij hj he => ?_)
  · rw [strEq_dec]
    refine decide_eq_false fun e => ?_
    rw [e, strLt_irrefl] at hp
    cases hp
  · have := srt h j i hij hj
    rw [strEq_iff.1 he] at this
    exact this
def stB (xs : List (Elem kb)) (a : Nat) : Bool ⊕ Nat := match strEq (atB xs a).2.2.1 ⟨#[]⟩ with
  | true => .inl ((atB xs a).2.1 == 1)
  | false => match fdB xs (atB xs a).2.2.1 with
    | none => .inl false
    | some k => match (atB xs k).2.1 == (atB xs a).2.1 with
      | true => .inl false
      | false => .inr k
theorem ld_chain (xs : List (Elem kb)) : ∀ (m a : Nat), ldB xs m (atB xs a) = chain (stB xs) m a
  | 0, _ => rfl
  | m + 1, a => by
    unfold chain stB
    cases h1 : strEq (atB xs a).2.2.1 ⟨#[]⟩ with
    | true => rw [ldB_root h1]
    | false =>
      cases h2 : fdB xs (atB xs a).2.2.1 with
      | none => rw [ldB_none h1 h2]
      | some k =>
        rw [ldB_some h1 h2]
        cases h3 : (atB xs k).2.1 == (atB xs a).2.1 with
        | true => simp only [h3]
        | false => simp only [h3]; exact ld_chain xs m k
theorem rt_chain {xs : List (Elem kb)} (h : allB xs.length (set1 xs) = true) : ∀ (m a : Nat), rtB xs m (atB xs a) = chain (stB xs) m a
  | 0, _ => rfl
  | m + 1, a => by
    unfold chain stB
    cases h1 : strEq (atB xs a).2.2.1 ⟨#[]⟩ with
    | true => rw [rtB_root h1]
    | false =>
      rw [fdB_ln h]
      cases h2 : okB xs (atB xs a).2.2.1 with
      | false => rw [rtB_none h1 h2]
      | true =>
        rw [rtB_some h1 h2]
        cases h3 : (atB xs (lnB xs (atB xs a).2.2.1)).2.1 == (atB xs a).2.1 with
        | true => simp only [h3]
        | false => simp only [h3]; exact rt_chain h m _
theorem ld_rt {xs : List (Elem kb)} (h : allB xs.length (set1 xs) = true) {i : Nat} (hi : i < xs.length) : ldB xs xs.length (atB xs i) = rtB xs (xs.length + 1) (atB xs i) := by
  rw [ld_chain, rt_chain h]
  refine chain_enough (stB xs) xs.length (fun a k ha hk => ?_) i hi
  unfold stB at hk
  split at hk
  · cases hk
  · split at hk
    · cases hk
    · rename_i q hq
      split at hk
      · cases hk
      · cases hk
        exact fdB_lt hq
theorem leads_all {xs : List (Elem kb)} (h : allB xs.length (set1 xs) = true) : (!anyB xs.length fun i => !ldB xs xs.length (atB xs i)) = allB xs.length fun i => rtB xs (xs.length + 1) (atB xs i) := by
  rw [anyB_all, Bool.not_not]
  exact allB_congr fun i hi => by rw [Bool.not_not, ld_rt h hi]
theorem any8 (e : Elem kb) : (anyB (bks e).length fun j => decide (((at1 (bks e) j).size : Int) > 24)) = !allB 8 fun j => decide (((at1 (bks e) j).size : Int) ≤ 24) := by
  rw [anyB_all]
  congr 1
  refine allB_congr fun j hj => ?_
  rw [Bool.eq_iff_iff]
  simp
theorem h70 : G1Ok Tryd.prog 70 g54 := by
  intro args obs k h
  unfold g54 at h
  split at h
  · rename_i k xs
    obtain ⟨hs, h⟩ := br_and h
    have hlen := smB_len hs
    refine ⟨_, ctr_fn okf hg70 Tryd.func70 (by kernel_rfl) (by kernel_rfl) (by kernel_rfl) fun C => ?_, h⟩
    rw [e70]
    refine br_dec (fun h0 => ?_) (fun h0 => ?_)
    · show _ = _
      rw [bookOk_0 h0]
    refine loopAll okf70 hg70 (st70 xs) xs.length (set1 xs) (by omega) (fun N i hi hw next fails done => ?_)
    show evP E70 G70 _ (lp70 4) (st70 xs i) (rk70 _ _ 4 _)
    rw [b70, hw, Int.toNat_natCast]
    refine br_dec (fun h2 => br_yes ⟨by omega, h2⟩ (br_t (smB_at hs (by omega)) (br_not (fun h3 => ?_) (fun h3 => (fun (tail : ord xs i = true → _) => br_dec (fun h4 => ?_) (fun h4 => tail (ord_0 xs h4))) (fun ho => ?_))))) (fun h2 => ?_)
    · show _ = _
      rw [bookOk_f (fails (by omega) (set1_n h3))]
    · rw [ix_pred h4 (by omega), Int.toNat_natCast]
      refine br_yes ⟨by omega, by omega⟩ (br_not (fun h5 => ?_) (fun h5 => tail ((ord_s xs h4).trans h5)))
      show _ = _
      rw [bookOk_f (fails (by omega) (set1_o ((ord_s xs h4).trans h5)))]
    · refine (fun (tail : ((atB xs i).2.1 == 1 || (atB xs i).2.1 == 2) = true → _) => br_bne (fun h5 => br_bne (fun h6 => ?_) (fun h6 => tail ?_)) (fun h5 => tail ?_)) (fun hk => ?_)
      · show _ = _
        rw [bookOk_f (fails (by omega) (set1_k (by rw [h5, h6]; rfl)))]
      · rw [h6, Bool.or_true]
      · rw [h5, Bool.true_or]
      · show br (anyB (bks (atB xs i)).length fun j => decide (((at1 (bks (atB xs i)) j).size : Int) > 24)) _ _
        rw [any8]
        refine br_not (fun h7 => ?_) (fun h7 => next (by omega) (set1_t h3 ho hk h7))
        show _ = _
        rw [bookOk_f (fails (by omega) (set1_b h7))]
    · have hall := done (by omega)
      refine br_t (by rw [decide_eq_true hlen]; rfl) ?_
      show _ = _
      rw [bookOk_t h0 hall, ← leads_all hall]
  · exact h.elim
theorem sum_mem {α : Type} (f : α → Nat) : ∀ {xs : List α} {a : α}, a ∈ xs → f a ≤ (xs.map f).sum
  | x :: xs, a, h => by
    rw [List.map_cons, List.sum_cons]
    rcases List.mem_cons.1 h with rfl | h
    · omega
    · have := sum_mem f h
      omega
theorem smB_of {xs : List (Elem kb)} (h : szBs xs ≤ 1048576) : smB xs = true := by
  unfold szBs at h
  unfold smB
  rw [Bool.and_eq_true, decide_eq_true_eq, List.all_eq_true]
  refine ⟨by omega, fun e he => decide_eq_true ?_⟩
  have h1 := sum_mem szB he
  have h2 : e.1.size ≤ szB e := by unfold szB; omega
  omega
theorem inBs_of {xs : List (Elem kb)} (h : xs.length ≤ maxLen ∧ ∀ e ∈ xs, elemOk kb e) : inBs xs = true := by
  unfold inBs
  rw [Bool.and_eq_true, decide_eq_true_eq, List.all_eq_true]
  refine ⟨h.1, fun e he => ?_⟩
  obtain ⟨h0, _, h2, a0, a1, a2, a3, a4, a5, a6, a7, _⟩ := h.2 e he
  simp only [inB, in8, inS, Bool.and_eq_true, decide_eq_true_eq]
  exact ⟨⟨h0, h2⟩, ⟨⟨⟨⟨⟨⟨⟨a0, a1⟩, a2⟩, a3⟩, a4⟩, a5⟩, a6⟩, a7⟩⟩
end Go.Proofs.YtljilcingbohkabDoor.Ev
