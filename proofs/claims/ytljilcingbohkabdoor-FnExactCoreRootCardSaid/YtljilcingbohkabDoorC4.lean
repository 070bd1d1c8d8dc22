/- Sets of a core that are valid: contracts. -/
import Derived.Test.YtljilcingbohkabDoorC3
import Derived.Test.YtljilcingbohkabDoorD15
namespace Go.Proofs.YtljilcingbohkabDoor.Ev
open Go
set_option linter.unusedVariables false
set_option linter.unusedSimpArgs false
set_option maxRecDepth 100000
def mps (e : Elem kc) : List (Elem k3) := [(e.2.2.2.1, e.2.2.2.2.1, e.2.2.2.2.2.1, ()), (e.2.2.2.2.2.2.1, e.2.2.2.2.2.2.2.1, e.2.2.2.2.2.2.2.2.1, ()), (e.2.2.2.2.2.2.2.2.2.1, e.2.2.2.2.2.2.2.2.2.2.1, e.2.2.2.2.2.2.2.2.2.2.2.1, ()), (e.2.2.2.2.2.2.2.2.2.2.2.2.1, e.2.2.2.2.2.2.2.2.2.2.2.2.2.1, e.2.2.2.2.2.2.2.2.2.2.2.2.2.2.1, ()), (e.2.2.2.2.2.2.2.2.2.2.2.2.2.2.2.1, e.2.2.2.2.2.2.2.2.2.2.2.2.2.2.2.2.1, e.2.2.2.2.2.2.2.2.2.2.2.2.2.2.2.2.2.1, ()), (e.2.2.2.2.2.2.2.2.2.2.2.2.2.2.2.2.2.2.1, e.2.2.2.2.2.2.2.2.2.2.2.2.2.2.2.2.2.2.2.1, e.2.2.2.2.2.2.2.2.2.2.2.2.2.2.2.2.2.2.2.2.1, ()), (e.2.2.2.2.2.2.2.2.2.2.2.2.2.2.2.2.2.2.2.2.2.1, e.2.2.2.2.2.2.2.2.2.2.2.2.2.2.2.2.2.2.2.2.2.2.1, e.2.2.2.2.2.2.2.2.2.2.2.2.2.2.2.2.2.2.2.2.2.2.2.1, ()), (e.2.2.2.2.2.2.2.2.2.2.2.2.2.2.2.2.2.2.2.2.2.2.2.2.1, e.2.2.2.2.2.2.2.2.2.2.2.2.2.2.2.2.2.2.2.2.2.2.2.2.2.1, e.2.2.2.2.2.2.2.2.2.2.2.2.2.2.2.2.2.2.2.2.2.2.2.2.2.2.1, ())]
def hom (e : Elem kc) : Elem k3 := (e.2.2.2.2.2.2.2.2.2.2.2.2.2.2.2.2.2.2.2.2.2.2.2.2.2.2.2.1, e.2.2.2.2.2.2.2.2.2.2.2.2.2.2.2.2.2.2.2.2.2.2.2.2.2.2.2.2.1, e.2.2.2.2.2.2.2.2.2.2.2.2.2.2.2.2.2.2.2.2.2.2.2.2.2.2.2.2.2.1, ())
def setK (e : Elem kc) : List AV := [.val (.string e.1), .val (.int .i64 e.2.1), .val (.string e.2.2.1), .val (.int .i64 e.2.2.2.1), .val (.int .i64 e.2.2.2.2.1), .val (.int .i64 e.2.2.2.2.2.1), .val (.int .i64 e.2.2.2.2.2.2.1), .val (.int .i64 e.2.2.2.2.2.2.2.1), .val (.int .i64 e.2.2.2.2.2.2.2.2.1), .val (.int .i64 e.2.2.2.2.2.2.2.2.2.1), .val (.int .i64 e.2.2.2.2.2.2.2.2.2.2.1), .val (.int .i64 e.2.2.2.2.2.2.2.2.2.2.2.1), .val (.int .i64 e.2.2.2.2.2.2.2.2.2.2.2.2.1), .val (.int .i64 e.2.2.2.2.2.2.2.2.2.2.2.2.2.1), .val (.int .i64 e.2.2.2.2.2.2.2.2.2.2.2.2.2.2.1), .val (.int .i64 e.2.2.2.2.2.2.2.2.2.2.2.2.2.2.2.1), .val (.int .i64 e.2.2.2.2.2.2.2.2.2.2.2.2.2.2.2.2.1), .val (.int .i64 e.2.2.2.2.2.2.2.2.2.2.2.2.2.2.2.2.2.1), .val (.int .i64 e.2.2.2.2.2.2.2.2.2.2.2.2.2.2.2.2.2.2.1), .val (.int .i64 e.2.2.2.2.2.2.2.2.2.2.2.2.2.2.2.2.2.2.2.1), .val (.int .i64 e.2.2.2.2.2.2.2.2.2.2.2.2.2.2.2.2.2.2.2.2.1), .val (.int .i64 e.2.2.2.2.2.2.2.2.2.2.2.2.2.2.2.2.2.2.2.2.2.1), .val (.int .i64 e.2.2.2.2.2.2.2.2.2.2.2.2.2.2.2.2.2.2.2.2.2.2.1), .val (.int .i64 e.2.2.2.2.2.2.2.2.2.2.2.2.2.2.2.2.2.2.2.2.2.2.2.1), .val (.int .i64 e.2.2.2.2.2.2.2.2.2.2.2.2.2.2.2.2.2.2.2.2.2.2.2.2.1), .val (.int .i64 e.2.2.2.2.2.2.2.2.2.2.2.2.2.2.2.2.2.2.2.2.2.2.2.2.2.1), .val (.int .i64 e.2.2.2.2.2.2.2.2.2.2.2.2.2.2.2.2.2.2.2.2.2.2.2.2.2.2.1), .val (.int .i64 e.2.2.2.2.2.2.2.2.2.2.2.2.2.2.2.2.2.2.2.2.2.2.2.2.2.2.2.1), .val (.int .i64 e.2.2.2.2.2.2.2.2.2.2.2.2.2.2.2.2.2.2.2.2.2.2.2.2.2.2.2.2.1), .val (.int .i64 e.2.2.2.2.2.2.2.2.2.2.2.2.2.2.2.2.2.2.2.2.2.2.2.2.2.2.2.2.2.1), .val (.bool e.2.2.2.2.2.2.2.2.2.2.2.2.2.2.2.2.2.2.2.2.2.2.2.2.2.2.2.2.2.2.1)]
abbrev atC (xs : List (Elem kc)) (i : Nat) : Elem kc := xs.getD i (edflt kc)
abbrev atP (xs : List (Elem k3)) (i : Nat) : Elem k3 := xs.getD i (edflt k3)
def setV (e : Elem kc) : Bool := nameOk e.1 && (strEq e.2.2.1 ⟨#[]⟩ || nameOk e.2.2.1) && (e.2.1 == 1 || e.2.1 == 2) && pOk (hom e) && allB 8 fun j => pOk (atP (mps e) j)
def smC (e : Elem kc) : Bool := decide (e.1.size ≤ 1048576) && decide (e.2.2.1.size ≤ 1048576)
def g52 : G1
  | [.agg us], [], k => match elemOf kc us with
    | some e => br (smC e) (k ⟨.val (.bool (setV e)), [], []⟩) False
    | none => False
  | _, _, _ => False
def g123 : G1
  | [.agg [.val (.int .i64 a), .val (.int .i64 b), .val (.int .i64 c)]], [], k => k ⟨.val (.bool (!ptrOk a b c)), [], []⟩
  | _, _, _ => False
def g119 : G1
  | [.rsl [.int .i64, .int .i64, .int .i64] xs, .fn 123 []], [], k => br (decide (xs.length ≤ 1048576)) (k ⟨.val (.int .i64 (fIx xs.length fun i => !pOk (atP xs i))), [], []⟩) False
  | _, _, _ => False
def g64 : G1
  | [.rsl [.int .i64, .int .i64, .int .i64] xs, .fn 123 []], [], k => br (decide (xs.length ≤ 1048576)) (k ⟨.val (.bool (anyB xs.length fun i => !pOk (atP xs i))), [], []⟩) False
  | _, _, _ => False
def g65 : G1
  | [.agg [.val (.int .i64 a), .val (.int .i64 b), .val (.int .i64 c)]], [], k => k ⟨.val (.bool (!realP a b c)), [], []⟩
  | _, _, _ => False
def rOk (e : Elem k3) : Bool := realP e.1 e.2.1 e.2.2.1
def g119r : G1
  | [.rsl [.int .i64, .int .i64, .int .i64] xs, .fn 65 []], [], k => br (decide (xs.length ≤ 1048576)) (k ⟨.val (.int .i64 (fIx xs.length fun i => !rOk (atP xs i))), [], []⟩) False
  | _, _, _ => False
def g64r : G1
  | [.rsl [.int .i64, .int .i64, .int .i64] xs, .fn 65 []], [], k => br (decide (xs.length ≤ 1048576)) (k ⟨.val (.bool (anyB xs.length fun i => !rOk (atP xs i))), [], []⟩) False
  | _, _, _ => False
noncomputable def E123 : Env := Ef.of Tryd.f123
noncomputable def G123 : Gk := gk [(120, g120)]
noncomputable def lp123 (n : Nat) : Code := (loopOf n (codeOf Tryd.f123)).getD .skip
noncomputable def ct123 (L : Lp) (R : Option Res → Prop) (n : Nat) : Kt := contOf E123 G123 L n (codeOf Tryd.f123) (endK E123 Tryd.f123.results.toList R)
noncomputable def rk123 (L : Lp) (R : Option Res → Prop) (n : Nat) (N : St → Prop) : Kt := rk (jof E123 (lp123 n)) N (ct123 L R n)
noncomputable def rkn123 (L : Lp) (R : Option Res → Prop) (n : Nat) (N : St → Prop) (m : Nat) (N2 : St → Prop) : Kt := rk (jof E123 (lp123 m)) N2 (contOf E123 G123 L m (lp123 n) (rk123 L R n N))
noncomputable def LOOPN123 (L : Lp) (R : Option Res → Prop) (n : Nat) (N : St → Prop) (m : Nat) (st : St) : Prop := L (lp123 m) st (contOf E123 G123 L m (lp123 n) (rk123 L R n N))
noncomputable def LOOP123 (L : Lp) (R : Option Res → Prop) (n : Nat) (st : St) : Prop := L (lp123 n) st (ct123 L R n)
theorem hg123 : HG Tryd.prog G123 := (hg_cons h120 hg_nil)
theorem okf123 : Ok Tryd.prog E123 := okf.of Tryd.f123
theorem e123 (L : Lp) (R : Option Res → Prop) (a b c : Int) : (bodyP Ef G123 L Tryd.f123 [.agg [.val (.int .i64 a), .val (.int .i64 b), .val (.int .i64 c)]] [] R) = (
    R (some { av := vB !ptrOk a b c, obs := [], outs := [] })) := by kernel_rfl
theorem h123 : G1Ok Tryd.prog 123 g123 := by
  intro args obs k h
  unfold g123 at h
  split at h
  · rename_i k a b c
    refine ⟨_, ctr_fn okf hg123 Tryd.func123 (by kernel_rfl) (by kernel_rfl) (by kernel_rfl) fun C => ?_, h⟩
    rw [e123]
  · exact h.elim
noncomputable def E65 : Env := Ef.of Tryd.f65
noncomputable def G65 : Gk := gk [(66, g66)]
noncomputable def lp65 (n : Nat) : Code := (loopOf n (codeOf Tryd.f65)).getD .skip
noncomputable def ct65 (L : Lp) (R : Option Res → Prop) (n : Nat) : Kt := contOf E65 G65 L n (codeOf Tryd.f65) (endK E65 Tryd.f65.results.toList R)
noncomputable def rk65 (L : Lp) (R : Option Res → Prop) (n : Nat) (N : St → Prop) : Kt := rk (jof E65 (lp65 n)) N (ct65 L R n)
noncomputable def rkn65 (L : Lp) (R : Option Res → Prop) (n : Nat) (N : St → Prop) (m : Nat) (N2 : St → Prop) : Kt := rk (jof E65 (lp65 m)) N2 (contOf E65 G65 L m (lp65 n) (rk65 L R n N))
noncomputable def LOOPN65 (L : Lp) (R : Option Res → Prop) (n : Nat) (N : St → Prop) (m : Nat) (st : St) : Prop := L (lp65 m) st (contOf E65 G65 L m (lp65 n) (rk65 L R n N))
noncomputable def LOOP65 (L : Lp) (R : Option Res → Prop) (n : Nat) (st : St) : Prop := L (lp65 n) st (ct65 L R n)
theorem hg65 : HG Tryd.prog G65 := (hg_cons h66 hg_nil)
theorem okf65 : Ok Tryd.prog E65 := okf.of Tryd.f65
theorem e65 (L : Lp) (R : Option Res → Prop) (a b c : Int) : (bodyP Ef G65 L Tryd.f65 [.agg [.val (.int .i64 a), .val (.int .i64 b), .val (.int .i64 c)]] [] R) = (
    R (some { av := vB !realP a b c, obs := [], outs := [] })) := by kernel_rfl
theorem h65 : G1Ok Tryd.prog 65 g65 := by
  intro args obs k h
  unfold g65 at h
  split at h
  · rename_i k a b c
    refine ⟨_, ctr_fn okf hg65 Tryd.func65 (by kernel_rfl) (by kernel_rfl) (by kernel_rfl) fun C => ?_, h⟩
    rw [e65]
  · exact h.elim
noncomputable def E119 : Env := Ef.of Tryd.f119
noncomputable def G119 : Gk := gk [(123, g123)]
noncomputable def lp119 (n : Nat) : Code := (loopOf n (codeOf Tryd.f119)).getD .skip
noncomputable def ct119 (L : Lp) (R : Option Res → Prop) (n : Nat) : Kt := contOf E119 G119 L n (codeOf Tryd.f119) (endK E119 Tryd.f119.results.toList R)
noncomputable def rk119 (L : Lp) (R : Option Res → Prop) (n : Nat) (N : St → Prop) : Kt := rk (jof E119 (lp119 n)) N (ct119 L R n)
noncomputable def rkn119 (L : Lp) (R : Option Res → Prop) (n : Nat) (N : St → Prop) (m : Nat) (N2 : St → Prop) : Kt := rk (jof E119 (lp119 m)) N2 (contOf E119 G119 L m (lp119 n) (rk119 L R n N))
noncomputable def LOOPN119 (L : Lp) (R : Option Res → Prop) (n : Nat) (N : St → Prop) (m : Nat) (st : St) : Prop := L (lp119 m) st (contOf E119 G119 L m (lp119 n) (rk119 L R n N))
noncomputable def LOOP119 (L : Lp) (R : Option Res → Prop) (n : Nat) (st : St) : Prop := L (lp119 n) st (ct119 L R n)
theorem hg119 : HG Tryd.prog G119 := (hg_cons h123 hg_nil)
theorem okf119 : Ok Tryd.prog E119 := okf.of Tryd.f119
theorem e119 (L : Lp) (R : Option Res → Prop) (xs : List (Elem k3)) : (bodyP Ef G119 L Tryd.f119 [.rsl k3 xs, .fn 123 []] [] R) = (
    LOOP119 L R 2 { tm := [AV.rsl k3 xs, AV.fn 123 [], vJ, vJ, vJ, vJ, vJ, vI (↑xs.length : Int), vI 0, vJ, vJ, vJ, vJ, vJ, vJ, vJ, vJ, vJ, vJ], ob := [], nx := 1000000, ps := [] }) := by kernel_rfl
def st119 (xs : List (Elem k3)) (i : Int) : St :=  ⟨[AV.rsl k3 xs, AV.fn 123 [], vJ, vJ, vJ, vJ, vJ, vI (↑xs.length : Int), .val (.int .i64 i), vJ, vJ, vJ, vJ, vJ, vJ, vJ, vJ, vJ, vJ], [], 1000000, []⟩
theorem b119 (L : Lp) (R : Option Res → Prop) (N : St → Prop) (xs : List (Elem k3)) (i : Int) : (evP E119 G119 L (lp119 2) (st119 xs i) (rk119 L R 2 N)) = (
    br (decide (i < (↑xs.length : Int))) (br (decide (0 ≤ i ∧ i < (↑xs.length : Int))) (br (!ptrOk (xs.getD i.toNat (edflt k3)).fst (xs.getD i.toNat (edflt k3)).snd.fst (xs.getD i.toNat (edflt k3)).snd.snd.fst) (R (some { av := vI i, obs := [], outs := [] })) (N { tm := [AV.rsl k3 xs, AV.fn 123 [], vJ, vJ, vJ, vJ, vJ, vI (↑xs.length : Int), vI (IntKind.i64.wrap (i + 1)), vJ, vJ, vJ, vJ, vJ, vJ, vJ, vJ, vJ, vJ], ob := [], nx := 1000000, ps := [] })) False) (R (some { av := vI (-1), obs := [], outs := [] }))) := by kernel_rfl
theorem h119 : G1Ok Tryd.prog 119 g119 := by
  intro args obs k h
  unfold g119 at h
  split at h
  · rename_i k xs
    obtain ⟨hl, h⟩ := brd h
    refine ⟨_, ctr_fn okf hg119 Tryd.func119 (by kernel_rfl) (by kernel_rfl) (by kernel_rfl) fun C => ?_, h⟩
    rw [e119]
    refine loopFind okf119 hg119 (fun i => st119 xs i) xs.length (fun i => !pOk (atP xs i)) (by omega) (fun N i hi hw next found none => ?_)
    show evP E119 G119 _ (lp119 2) (st119 xs i) (rk119 _ _ 2 _)
    rw [b119, hw, Int.toNat_natCast]
    refine br_dec (fun h2 => br_yes ⟨by omega, h2⟩ (br_intro (fun h3 => ?_) (fun h3 => ?_))) (fun h2 => ?_)
    · show _ = _
      rw [found (by omega) h3]
    · exact next (by omega) h3
    · show _ = _
      rw [none (by omega)]
  · exact h.elim
noncomputable def E64 : Env := Ef.of Tryd.f64
noncomputable def G64 : Gk := gk [(119, g119)]
noncomputable def lp64 (n : Nat) : Code := (loopOf n (codeOf Tryd.f64)).getD .skip
noncomputable def ct64 (L : Lp) (R : Option Res → Prop) (n : Nat) : Kt := contOf E64 G64 L n (codeOf Tryd.f64) (endK E64 Tryd.f64.results.toList R)
noncomputable def rk64 (L : Lp) (R : Option Res → Prop) (n : Nat) (N : St → Prop) : Kt := rk (jof E64 (lp64 n)) N (ct64 L R n)
noncomputable def rkn64 (L : Lp) (R : Option Res → Prop) (n : Nat) (N : St → Prop) (m : Nat) (N2 : St → Prop) : Kt := rk (jof E64 (lp64 m)) N2 (contOf E64 G64 L m (lp64 n) (rk64 L R n N))
noncomputable def LOOPN64 (L : Lp) (R : Option Res → Prop) (n : Nat) (N : St → Prop) (m : Nat) (st : St) : Prop := L (lp64 m) st (contOf E64 G64 L m (lp64 n) (rk64 L R n N))
noncomputable def LOOP64 (L : Lp) (R : Option Res → Prop) (n : Nat) (st : St) : Prop := L (lp64 n) st (ct64 L R n)
theorem hg64 : HG Tryd.prog G64 := (hg_cons h119 hg_nil)
theorem okf64 : Ok Tryd.prog E64 := okf.of Tryd.f64
theorem e64 (L : Lp) (R : Option Res → Prop) (xs : List (Elem k3)) : (bodyP Ef G64 L Tryd.f64 [.rsl k3 xs, .fn 123 []] [] R) = (
    br (decide (xs.length ≤ 1048576)) (R (some { av := vB (decide ((fIx xs.length fun i => !pOk (atP xs i)) ≥ 0)), obs := [], outs := [] })) False) := by kernel_rfl
theorem h64 : G1Ok Tryd.prog 64 g64 := by
  intro args obs k h
  unfold g64 at h
  split at h
  · rename_i k xs
    obtain ⟨hl, h⟩ := br_and h
    refine ⟨_, ctr_fn okf hg64 Tryd.func64 (by kernel_rfl) (by kernel_rfl) (by kernel_rfl) fun C => ?_, h⟩
    rw [e64]
    refine br_t hl ?_
    show _ = _
    rw [fIx_ge]
  · exact h.elim
noncomputable def E119r : Env := Ef.of Tryd.f119
noncomputable def G119r : Gk := gk [(65, g65)]
noncomputable def lp119r (n : Nat) : Code := (loopOf n (codeOf Tryd.f119)).getD .skip
noncomputable def ct119r (L : Lp) (R : Option Res → Prop) (n : Nat) : Kt := contOf E119r G119r L n (codeOf Tryd.f119) (endK E119r Tryd.f119.results.toList R)
noncomputable def rk119r (L : Lp) (R : Option Res → Prop) (n : Nat) (N : St → Prop) : Kt := rk (jof E119r (lp119r n)) N (ct119r L R n)
noncomputable def rkn119r (L : Lp) (R : Option Res → Prop) (n : Nat) (N : St → Prop) (m : Nat) (N2 : St → Prop) : Kt := rk (jof E119r (lp119r m)) N2 (contOf E119r G119r L m (lp119r n) (rk119r L R n N))
noncomputable def LOOPN119r (L : Lp) (R : Option Res → Prop) (n : Nat) (N : St → Prop) (m : Nat) (st : St) : Prop := L (lp119r m) st (contOf E119r G119r L m (lp119r n) (rk119r L R n N))
noncomputable def LOOP119r (L : Lp) (R : Option Res → Prop) (n : Nat) (st : St) : Prop := L (lp119r n) st (ct119r L R n)
theorem hg119r : HG Tryd.prog G119r := (hg_cons h65 hg_nil)
theorem okf119r : Ok Tryd.prog E119r := okf.of Tryd.f119
theorem e119r (L : Lp) (R : Option Res → Prop) (xs : List (Elem k3)) : (bodyP Ef G119r L Tryd.f119 [.rsl k3 xs, .fn 65 []] [] R) = (
    LOOP119r L R 2 { tm := [AV.rsl k3 xs, AV.fn 65 [], vJ, vJ, vJ, vJ, vJ, vI (↑xs.length : Int), vI 0, vJ, vJ, vJ, vJ, vJ, vJ, vJ, vJ, vJ, vJ], ob := [], nx := 1000000, ps := [] }) := by kernel_rfl
def st119r (xs : List (Elem k3)) (i : Int) : St :=  ⟨[AV.rsl k3 xs, AV.fn 65 [], vJ, vJ, vJ, vJ, vJ, vI (↑xs.length : Int), .val (.int .i64 i), vJ, vJ, vJ, vJ, vJ, vJ, vJ, vJ, vJ, vJ], [], 1000000, []⟩
theorem b119r (L : Lp) (R : Option Res → Prop) (N : St → Prop) (xs : List (Elem k3)) (i : Int) : (evP E119r G119r L (lp119r 2) (st119r xs i) (rk119r L R 2 N)) = (
    br (decide (i < (↑xs.length : Int))) (br (decide (0 ≤ i ∧ i < (↑xs.length : Int))) (br (!realP (xs.getD i.toNat (edflt k3)).fst (xs.getD i.toNat (edflt k3)).snd.fst (xs.getD i.toNat (edflt k3)).snd.snd.fst) (R (some { av := vI i, obs := [], outs := [] })) (N { tm := [AV.rsl k3 xs, AV.fn 65 [], vJ, vJ, vJ, vJ, vJ, vI (↑xs.length : Int), vI (IntKind.i64.wrap (i + 1)), vJ, vJ, vJ, vJ, vJ, vJ, vJ, vJ, vJ, vJ], ob := [], nx := 1000000, ps := [] })) False) (R (some { av := vI (-1), obs := [], outs := [] }))) := by kernel_rfl
theorem h119r : G1Ok Tryd.prog 119 g119r := by
  intro args obs k h
  unfold g119r at h
  split at h
  · rename_i k xs
    obtain ⟨hl, h⟩ := brd h
    refine ⟨_, ctr_fn okf hg119r Tryd.func119 (by kernel_rfl) (by kernel_rfl) (by kernel_rfl) fun C => ?_, h⟩
    rw [e119r]
    refine loopFind okf119r hg119r (fun i => st119r xs i) xs.length (fun i => !rOk (atP xs i)) (by omega) (fun N i hi hw next found none => ?_)
    show evP E119r G119r _ (lp119r 2) (st119r xs i) (rk119r _ _ 2 _)
    rw [b119r, hw, Int.toNat_natCast]
    refine br_dec (fun h2 => br_yes ⟨by omega, h2⟩ (br_intro (fun h3 => ?_) (fun h3 => ?_))) (fun h2 => ?_)
    · show _ = _
      rw [found (by omega) h3]
    · exact next (by omega) h3
    · show _ = _
      rw [none (by omega)]
  · exact h.elim
noncomputable def E64r : Env := Ef.of Tryd.f64
noncomputable def G64r : Gk := gk [(119, g119r)]
noncomputable def lp64r (n : Nat) : Code := (loopOf n (codeOf Tryd.f64)).getD .skip
noncomputable def ct64r (L : Lp) (R : Option Res → Prop) (n : Nat) : Kt := contOf E64r G64r L n (codeOf Tryd.f64) (endK E64r Tryd.f64.results.toList R)
noncomputable def rk64r (L : Lp) (R : Option Res → Prop) (n : Nat) (N : St → Prop) : Kt := rk (jof E64r (lp64r n)) N (ct64r L R n)
noncomputable def rkn64r (L : Lp) (R : Option Res → Prop) (n : Nat) (N : St → Prop) (m : Nat) (N2 : St → Prop) : Kt := rk (jof E64r (lp64r m)) N2 (contOf E64r G64r L m (lp64r n) (rk64r L R n N))
noncomputable def LOOPN64r (L : Lp) (R : Option Res → Prop) (n : Nat) (N : St → Prop) (m : Nat) (st : St) : Prop := L (lp64r m) st (contOf E64r G64r L m (lp64r n) (rk64r L R n N))
noncomputable def LOOP64r (L : Lp) (R : Option Res → Prop) (n : Nat) (st : St) : Prop := L (lp64r n) st (ct64r L R n)
theorem hg64r : HG Tryd.prog G64r := (hg_cons h119r hg_nil)
theorem okf64r : Ok Tryd.prog E64r := okf.of Tryd.f64
theorem e64r (L : Lp) (R : Option Res → Prop) (xs : List (Elem k3)) : (bodyP Ef G64r L Tryd.f64 [.rsl k3 xs, .fn 65 []] [] R) = (
    br (decide (xs.length ≤ 1048576)) (R (some { av := vB (decide ((fIx xs.length fun i => !rOk (atP xs i)) ≥ 0)), obs := [], outs := [] })) False) := by kernel_rfl
theorem h64r : G1Ok Tryd.prog 64 g64r := by
  intro args obs k h
  unfold g64r at h
  split at h
  · rename_i k xs
    obtain ⟨hl, h⟩ := br_and h
    refine ⟨_, ctr_fn okf hg64r Tryd.func64 (by kernel_rfl) (by kernel_rfl) (by kernel_rfl) fun C => ?_, h⟩
    rw [e64r]
    refine br_t hl ?_
    show _ = _
    rw [fIx_ge]
  · exact h.elim
noncomputable def E52 : Env := Ef.of Tryd.f52
noncomputable def G52 : Gk := gk [(111, g111), (53, g120)]
noncomputable def lp52 (n : Nat) : Code := (loopOf n (codeOf Tryd.f52)).getD .skip
noncomputable def ct52 (L : Lp) (R : Option Res → Prop) (n : Nat) : Kt := contOf E52 G52 L n (codeOf Tryd.f52) (endK E52 Tryd.f52.results.toList R)
noncomputable def rk52 (L : Lp) (R : Option Res → Prop) (n : Nat) (N : St → Prop) : Kt := rk (jof E52 (lp52 n)) N (ct52 L R n)
noncomputable def rkn52 (L : Lp) (R : Option Res → Prop) (n : Nat) (N : St → Prop) (m : Nat) (N2 : St → Prop) : Kt := rk (jof E52 (lp52 m)) N2 (contOf E52 G52 L m (lp52 n) (rk52 L R n N))
noncomputable def LOOPN52 (L : Lp) (R : Option Res → Prop) (n : Nat) (N : St → Prop) (m : Nat) (st : St) : Prop := L (lp52 m) st (contOf E52 G52 L m (lp52 n) (rk52 L R n N))
noncomputable def LOOP52 (L : Lp) (R : Option Res → Prop) (n : Nat) (st : St) : Prop := L (lp52 n) st (ct52 L R n)
theorem hg52 : HG Tryd.prog G52 := (hg_cons h111 (hg_cons h53 hg_nil))
theorem okf52 : Ok Tryd.prog E52 := okf.of Tryd.f52
theorem e52 (L : Lp) (R : Option Res → Prop) (e : Elem kc) : (bodyP Ef G52 L Tryd.f52 [.agg (setK e)] [] R) = (
    br (decide (ByteArray.size e.fst ≤ 1048576)) (br (!nameOk e.fst) (R (some { av := vB false, obs := [], outs := [] })) (br (!strEq e.snd.snd.fst { data := #[] }) (br (decide (ByteArray.size e.snd.snd.fst ≤ 1048576)) (br (!nameOk e.snd.snd.fst) (R (some { av := vB false, obs := [], outs := [] })) (br (decide (e.snd.fst < 1)) (R (some { av := vB false, obs := [], outs := [] })) (br (decide (e.snd.fst > 2)) (R (some { av := vB false, obs := [], outs := [] })) (br (!ptrOk e.snd.snd.snd.snd.snd.snd.snd.snd.snd.snd.snd.snd.snd.snd.snd.snd.snd.snd.snd.snd.snd.snd.snd.snd.snd.snd.snd.fst e.snd.snd.snd.snd.snd.snd.snd.snd.snd.snd.snd.snd.snd.snd.snd.snd.snd.snd.snd.snd.snd.snd.snd.snd.snd.snd.snd.snd.fst e.snd.snd.snd.snd.snd.snd.snd.snd.snd.snd.snd.snd.snd.snd.snd.snd.snd.snd.snd.snd.snd.snd.snd.snd.snd.snd.snd.snd.snd.fst) (R (some { av := vB false, obs := [], outs := [] })) (LOOP52 L R 4 { tm := [vJ, AV.ptr 0 0, vJ, vI 0, vJ, vJ, vJ, vJ, vJ, vJ, vJ, vJ, vJ, vJ, vJ, vJ, vJ, vJ, vJ, vJ, vJ, vJ, vJ, vJ, vJ, vJ, vJ, vJ, vJ, vJ, vJ, vJ, vJ, vJ, vJ, vJ, vJ, vJ, vJ, vJ, vJ, vJ, vJ, vJ, vJ], ob := [(0, AO.box (setK e))], nx := 1000000, ps := [] }))))) False) (br (decide (e.snd.fst < 1)) (R (some { av := vB false, obs := [], outs := [] })) (br (decide (e.snd.fst > 2)) (R (some { av := vB false, obs := [], outs := [] })) (br (!ptrOk e.snd.snd.snd.snd.snd.snd.snd.snd.snd.snd.snd.snd.snd.snd.snd.snd.snd.snd.snd.snd.snd.snd.snd.snd.snd.snd.snd.fst e.snd.snd.snd.snd.snd.snd.snd.snd.snd.snd.snd.snd.snd.snd.snd.snd.snd.snd.snd.snd.snd.snd.snd.snd.snd.snd.snd.snd.fst e.snd.snd.snd.snd.snd.snd.snd.snd.snd.snd.snd.snd.snd.snd.snd.snd.snd.snd.snd.snd.snd.snd.snd.snd.snd.snd.snd.snd.snd.fst) (R (some { av := vB false, obs := [], outs := [] })) (LOOP52 L R 4 { tm := [vJ, AV.ptr 0 0, vJ, vI 0, vJ, vJ, vJ, vJ, vJ, vJ, vJ, vJ, vJ, vJ, vJ, vJ, vJ, vJ, vJ, vJ, vJ, vJ, vJ, vJ, vJ, vJ, vJ, vJ, vJ, vJ, vJ, vJ, vJ, vJ, vJ, vJ, vJ, vJ, vJ, vJ, vJ, vJ, vJ, vJ, vJ], ob := [(0, AO.box (setK e))], nx := 1000000, ps := [] })))))) False) := by kernel_rfl
def st52 (e : Elem kc) (j : Int) : St :=  ⟨[vJ, AV.ptr 0 0, vJ, .val (.int .i64 j), vJ, vJ, vJ, vJ, vJ, vJ, vJ, vJ, vJ, vJ, vJ, vJ, vJ, vJ, vJ, vJ, vJ, vJ, vJ, vJ, vJ, vJ, vJ, vJ, vJ, vJ, vJ, vJ, vJ, vJ, vJ, vJ, vJ, vJ, vJ, vJ, vJ, vJ, vJ, vJ, vJ], [(0, AO.box (setK e))], 1000000, []⟩
theorem b52_0 (L : Lp) (R : Option Res → Prop) (N : St → Prop) (e : Elem kc) : (evP E52 G52 L (lp52 4) (st52 e 0) (rk52 L R 4 N)) = (
    br (!ptrOk e.snd.snd.snd.fst e.snd.snd.snd.snd.fst e.snd.snd.snd.snd.snd.fst) (R (some { av := vB false, obs := [], outs := [] })) (N { tm := [vJ, AV.ptr 0 0, vJ, vI 1, vJ, vJ, vJ, vJ, vJ, vJ, vJ, vJ, vJ, vJ, vJ, vJ, vJ, vJ, vJ, vJ, vJ, vJ, vJ, vJ, vJ, vJ, vJ, vJ, vJ, vJ, vJ, vJ, vJ, vJ, vJ, vJ, vJ, vJ, vJ, vJ, vJ, vJ, vJ, vJ, vJ], ob := [(0, AO.box (setK e))], nx := 1000000, ps := [] })) := by kernel_rfl
theorem b52_1 (L : Lp) (R : Option Res → Prop) (N : St → Prop) (e : Elem kc) : (evP E52 G52 L (lp52 4) (st52 e 1) (rk52 L R 4 N)) = (
    br (!ptrOk e.snd.snd.snd.snd.snd.snd.fst e.snd.snd.snd.snd.snd.snd.snd.fst e.snd.snd.snd.snd.snd.snd.snd.snd.fst) (R (some { av := vB false, obs := [], outs := [] })) (N { tm := [vJ, AV.ptr 0 0, vJ, vI 2, vJ, vJ, vJ, vJ, vJ, vJ, vJ, vJ, vJ, vJ, vJ, vJ, vJ, vJ, vJ, vJ, vJ, vJ, vJ, vJ, vJ, vJ, vJ, vJ, vJ, vJ, vJ, vJ, vJ, vJ, vJ, vJ, vJ, vJ, vJ, vJ, vJ, vJ, vJ, vJ, vJ], ob := [(0, AO.box (setK e))], nx := 1000000, ps := [] })) := by kernel_rfl
theorem b52_2 (L : Lp) (R : Option Res → Prop) (N : St → Prop) (e : Elem kc) : (evP E52 G52 L (lp52 4) (st52 e 2) (rk52 L R 4 N)) = (
    br (!ptrOk e.snd.snd.snd.snd.snd.snd.snd.snd.snd.fst e.snd.snd.snd.snd.snd.snd.snd.snd.snd.snd.fst e.snd.snd.snd.snd.snd.snd.snd.snd.snd.snd.snd.fst) (R (some { av := vB false, obs := [], outs := [] })) (N { tm := [vJ, AV.ptr 0 0, vJ, vI 3, vJ, vJ, vJ, vJ, vJ, vJ, vJ, vJ, vJ, vJ, vJ, vJ, vJ, vJ, vJ, vJ, vJ, vJ, vJ, vJ, vJ, vJ, vJ, vJ, vJ, vJ, vJ, vJ, vJ, vJ, vJ, vJ, vJ, vJ, vJ, vJ, vJ, vJ, vJ, vJ, vJ], ob := [(0, AO.box (setK e))], nx := 1000000, ps := [] })) := by kernel_rfl
theorem b52_3 (L : Lp) (R : Option Res → Prop) (N : St → Prop) (e : Elem kc) : (evP E52 G52 L (lp52 4) (st52 e 3) (rk52 L R 4 N)) = (
    br (!ptrOk e.snd.snd.snd.snd.snd.snd.snd.snd.snd.snd.snd.snd.fst e.snd.snd.snd.snd.snd.snd.snd.snd.snd.snd.snd.snd.snd.fst e.snd.snd.snd.snd.snd.snd.snd.snd.snd.snd.snd.snd.snd.snd.fst) (R (some { av := vB false, obs := [], outs := [] })) (N { tm := [vJ, AV.ptr 0 0, vJ, vI 4, vJ, vJ, vJ, vJ, vJ, vJ, vJ, vJ, vJ, vJ, vJ, vJ, vJ, vJ, vJ, vJ, vJ, vJ, vJ, vJ, vJ, vJ, vJ, vJ, vJ, vJ, vJ, vJ, vJ, vJ, vJ, vJ, vJ, vJ, vJ, vJ, vJ, vJ, vJ, vJ, vJ], ob := [(0, AO.box (setK e))], nx := 1000000, ps := [] })) := by kernel_rfl
theorem b52_4 (L : Lp) (R : Option Res → Prop) (N : St → Prop) (e : Elem kc) : (evP E52 G52 L (lp52 4) (st52 e 4) (rk52 L R 4 N)) = (
    br (!ptrOk e.snd.snd.snd.snd.snd.snd.snd.snd.snd.snd.snd.snd.snd.snd.snd.fst e.snd.snd.snd.snd.snd.snd.snd.snd.snd.snd.snd.snd.snd.snd.snd.snd.fst e.snd.snd.snd.snd.snd.snd.snd.snd.snd.snd.snd.snd.snd.snd.snd.snd.snd.fst) (R (some { av := vB false, obs := [], outs := [] })) (N { tm := [vJ, AV.ptr 0 0, vJ, vI 5, vJ, vJ, vJ, vJ, vJ, vJ, vJ, vJ, vJ, vJ, vJ, vJ, vJ, vJ, vJ, vJ, vJ, vJ, vJ, vJ, vJ, vJ, vJ, vJ, vJ, vJ, vJ, vJ, vJ, vJ, vJ, vJ, vJ, vJ, vJ, vJ, vJ, vJ, vJ, vJ, vJ], ob := [(0, AO.box (setK e))], nx := 1000000, ps := [] })) := by kernel_rfl
theorem b52_5 (L : Lp) (R : Option Res → Prop) (N : St → Prop) (e : Elem kc) : (evP E52 G52 L (lp52 4) (st52 e 5) (rk52 L R 4 N)) = (
    br (!ptrOk e.snd.snd.snd.snd.snd.snd.snd.snd.snd.snd.snd.snd.snd.snd.snd.snd.snd.snd.fst e.snd.snd.snd.snd.snd.snd.snd.snd.snd.snd.snd.snd.snd.snd.snd.snd.snd.snd.snd.fst e.snd.snd.snd.snd.snd.snd.snd.snd.snd.snd.snd.snd.snd.snd.snd.snd.snd.snd.snd.snd.fst) (R (some { av := vB false, obs := [], outs := [] })) (N { tm := [vJ, AV.ptr 0 0, vJ, vI 6, vJ, vJ, vJ, vJ, vJ, vJ, vJ, vJ, vJ, vJ, vJ, vJ, vJ, vJ, vJ, vJ, vJ, vJ, vJ, vJ, vJ, vJ, vJ, vJ, vJ, vJ, vJ, vJ, vJ, vJ, vJ, vJ, vJ, vJ, vJ, vJ, vJ, vJ, vJ, vJ, vJ], ob := [(0, AO.box (setK e))], nx := 1000000, ps := [] })) := by kernel_rfl
theorem b52_6 (L : Lp) (R : Option Res → Prop) (N : St → Prop) (e : Elem kc) : (evP E52 G52 L (lp52 4) (st52 e 6) (rk52 L R 4 N)) = (
    br (!ptrOk e.snd.snd.snd.snd.snd.snd.snd.snd.snd.snd.snd.snd.snd.snd.snd.snd.snd.snd.snd.snd.snd.fst e.snd.snd.snd.snd.snd.snd.snd.snd.snd.snd.snd.snd.snd.snd.snd.snd.snd.snd.snd.snd.snd.snd.fst e.snd.snd.snd.snd.snd.snd.snd.snd.snd.snd.snd.snd.snd.snd.snd.snd.snd.snd.snd.snd.snd.snd.snd.fst) (R (some { av := vB false, obs := [], outs := [] })) (N { tm := [vJ, AV.ptr 0 0, vJ, vI 7, vJ, vJ, vJ, vJ, vJ, vJ, vJ, vJ, vJ, vJ, vJ, vJ, vJ, vJ, vJ, vJ, vJ, vJ, vJ, vJ, vJ, vJ, vJ, vJ, vJ, vJ, vJ, vJ, vJ, vJ, vJ, vJ, vJ, vJ, vJ, vJ, vJ, vJ, vJ, vJ, vJ], ob := [(0, AO.box (setK e))], nx := 1000000, ps := [] })) := by kernel_rfl
theorem b52_7 (L : Lp) (R : Option Res → Prop) (N : St → Prop) (e : Elem kc) : (evP E52 G52 L (lp52 4) (st52 e 7) (rk52 L R 4 N)) = (
    br (!ptrOk e.snd.snd.snd.snd.snd.snd.snd.snd.snd.snd.snd.snd.snd.snd.snd.snd.snd.snd.snd.snd.snd.snd.snd.snd.fst e.snd.snd.snd.snd.snd.snd.snd.snd.snd.snd.snd.snd.snd.snd.snd.snd.snd.snd.snd.snd.snd.snd.snd.snd.snd.fst e.snd.snd.snd.snd.snd.snd.snd.snd.snd.snd.snd.snd.snd.snd.snd.snd.snd.snd.snd.snd.snd.snd.snd.snd.snd.snd.fst) (R (some { av := vB false, obs := [], outs := [] })) (N { tm := [vJ, AV.ptr 0 0, vJ, vI 8, vJ, vJ, vJ, vJ, vJ, vJ, vJ, vJ, vJ, vJ, vJ, vJ, vJ, vJ, vJ, vJ, vJ, vJ, vJ, vJ, vJ, vJ, vJ, vJ, vJ, vJ, vJ, vJ, vJ, vJ, vJ, vJ, vJ, vJ, vJ, vJ, vJ, vJ, vJ, vJ, vJ], ob := [(0, AO.box (setK e))], nx := 1000000, ps := [] })) := by kernel_rfl
theorem b52_8 (L : Lp) (R : Option Res → Prop) (N : St → Prop) (e : Elem kc) : (evP E52 G52 L (lp52 4) (st52 e 8) (rk52 L R 4 N)) = (
    R (some { av := vB true, obs := [], outs := [] })) := by kernel_rfl
theorem setV_n {e : Elem kc} (h : nameOk e.1 = false) : setV e = false := by unfold setV; rw [h]; rfl
theorem setV_f {e : Elem kc} (h : (strEq e.2.2.1 ⟨#[]⟩ || nameOk e.2.2.1) = false) : setV e = false := by unfold setV; rw [h]; simp
theorem setV_k {e : Elem kc} (h : (e.2.1 == 1 || e.2.1 == 2) = false) : setV e = false := by unfold setV; rw [h]; simp
theorem setV_h {e : Elem kc} (h : pOk (hom e) = false) : setV e = false := by unfold setV; rw [h]; simp
theorem setV_b {e : Elem kc} (h : (allB 8 fun j => pOk (atP (mps e) j)) = false) : setV e = false := by unfold setV; rw [h]; simp
theorem setV_t {e : Elem kc} (h1 : nameOk e.1 = true) (h2 : (strEq e.2.2.1 ⟨#[]⟩ || nameOk e.2.2.1) = true) (h3 : (e.2.1 == 1 || e.2.1 == 2) = true) (h4 : pOk (hom e) = true) (h5 : (allB 8 fun j => pOk (atP (mps e) j)) = true) : setV e = true := by
  unfold setV
  rw [h1, h2, h3, h4, h5]
  rfl
theorem h52 : G1Ok Tryd.prog 52 g52 := by
  intro args obs k h
  unfold g52 at h
  split at h
  · rename_i k us
    split at h
    rotate_left
    · exact h.elim
    rename_i e he
    obtain rfl := elemOf_inv he
    obtain ⟨hs, h⟩ := br_and h
    unfold smC at hs
    rw [Bool.and_eq_true] at hs
    refine ⟨_, ctr_fn okf hg52 Tryd.func52 (by kernel_rfl) (by kernel_rfl) (by kernel_rfl) fun C => ?_, h⟩
    show bodyP Ef G52 _ Tryd.f52 [.agg (setK e)] [] _
    rw [e52]
    refine br_t hs.1 (br_not (fun h1 => ?_) (fun h1 => (fun (tail : (strEq e.2.2.1 ⟨#[]⟩ || nameOk e.2.2.1) = true → _) => br_not (fun h2 => br_t hs.2 (br_not (fun h3 => ?_) (fun h3 => tail ?_))) (fun h2 => tail ?_)) (fun hf => ?_)))
    · show _ = _
      rw [setV_n h1]
    · show _ = _
      rw [setV_f (by rw [h2, h3]; rfl)]
    · rw [h3, Bool.or_true]
    · rw [h2, Bool.true_or]
    refine br_dec (fun h4 => ?_) (fun h4 => br_dec (fun h5 => ?_) (fun h5 => br_not (fun h6 => ?_) (fun h6 => ?_)))
    · show _ = _
      rw [setV_k (kindF (.inl h4))]
    · show _ = _
      rw [setV_k (kindF (.inr h5))]
    · show _ = _
      rw [setV_h h6]
    refine loopAll okf52 hg52 (st52 e) 8 (fun j => pOk (atP (mps e) j)) (by omega) (fun N j hj hw next fails done => ?_)
    have cs : j = 0 ∨ j = 1 ∨ j = 2 ∨ j = 3 ∨ j = 4 ∨ j = 5 ∨ j = 6 ∨ j = 7 ∨ j = 8 := by omega
    rcases cs with rfl | rfl | rfl | rfl | rfl | rfl | rfl | rfl | rfl
    · show evP E52 G52 _ (lp52 4) (st52 e 0) (rk52 _ _ 4 _)
      rw [b52_0]
      refine br_not (fun h7 => ?_) (fun h7 => next (by omega) h7)
      show _ = _
      rw [setV_b (fails (by omega) h7)]
    · show evP E52 G52 _ (lp52 4) (st52 e 1) (rk52 _ _ 4 _)
      rw [b52_1]
      refine br_not (fun h7 => ?_) (fun h7 => next (by omega) h7)
      show _ = _
      rw [setV_b (fails (by omega) h7)]
    · show evP E52 G52 _ (lp52 4) (st52 e 2) (rk52 _ _ 4 _)
      rw [b52_2]
      refine br_not (fun h7 => ?_) (fun h7 => next (by omega) h7)
      show _ = _
      rw [setV_b (fails (by omega) h7)]
    · show evP E52 G52 _ (lp52 4) (st52 e 3) (rk52 _ _ 4 _)
      rw [b52_3]
      refine br_not (fun h7 => ?_) (fun h7 => next (by omega) h7)
      show _ = _
      rw [setV_b (fails (by omega) h7)]
    · show evP E52 G52 _ (lp52 4) (st52 e 4) (rk52 _ _ 4 _)
      rw [b52_4]
      refine br_not (fun h7 => ?_) (fun h7 => next (by omega) h7)
      show _ = _
      rw [setV_b (fails (by omega) h7)]
    · show evP E52 G52 _ (lp52 4) (st52 e 5) (rk52 _ _ 4 _)
      rw [b52_5]
      refine br_not (fun h7 => ?_) (fun h7 => next (by omega) h7)
      show _ = _
      rw [setV_b (fails (by omega) h7)]
    · show evP E52 G52 _ (lp52 4) (st52 e 6) (rk52 _ _ 4 _)
      rw [b52_6]
      refine br_not (fun h7 => ?_) (fun h7 => next (by omega) h7)
      show _ = _
      rw [setV_b (fails (by omega) h7)]
    · show evP E52 G52 _ (lp52 4) (st52 e 7) (rk52 _ _ 4 _)
      rw [b52_7]
      refine br_not (fun h7 => ?_) (fun h7 => next (by omega) h7)
      show _ = _
      rw [setV_b (fails (by omega) h7)]
    · show evP E52 G52 _ (lp52 4) (st52 e 8) (rk52 _ _ 4 _)
      rw [b52_8]
      show _ = _
      rw [setV_t h1 hf (kindT h4 h5) h6 (done (by omega))]
  · exact h.elim
noncomputable def E69 : Env := Ef.of Tryd.f69
noncomputable def G69 : Gk := gk [(122, g111), (120, g120), (64, g64)]
noncomputable def lp69 (n : Nat) : Code := (loopOf n (codeOf Tryd.f69)).getD .skip
noncomputable def ct69 (L : Lp) (R : Option Res → Prop) (n : Nat) : Kt := contOf E69 G69 L n (codeOf Tryd.f69) (endK E69 Tryd.f69.results.toList R)
noncomputable def rk69 (L : Lp) (R : Option Res → Prop) (n : Nat) (N : St → Prop) : Kt := rk (jof E69 (lp69 n)) N (ct69 L R n)
noncomputable def rkn69 (L : Lp) (R : Option Res → Prop) (n : Nat) (N : St → Prop) (m : Nat) (N2 : St → Prop) : Kt := rk (jof E69 (lp69 m)) N2 (contOf E69 G69 L m (lp69 n) (rk69 L R n N))
noncomputable def LOOPN69 (L : Lp) (R : Option Res → Prop) (n : Nat) (N : St → Prop) (m : Nat) (st : St) : Prop := L (lp69 m) st (contOf E69 G69 L m (lp69 n) (rk69 L R n N))
noncomputable def LOOP69 (L : Lp) (R : Option Res → Prop) (n : Nat) (st : St) : Prop := L (lp69 n) st (ct69 L R n)
theorem hg69 : HG Tryd.prog G69 := (hg_cons h122 (hg_cons h120 (hg_cons h64 hg_nil)))
theorem okf69 : Ok Tryd.prog E69 := okf.of Tryd.f69
theorem e69 (L : Lp) (R : Option Res → Prop) (e : Elem kc) : (bodyP Ef G69 L Tryd.f69 [.agg (setK e)] [] R) = (
    br (decide (ByteArray.size e.fst ≤ 1048576)) (br (!nameOk e.fst) (R (some { av := vB false, obs := [], outs := [] })) (br (!strEq e.snd.snd.fst { data := #[] }) (br (decide (ByteArray.size e.snd.snd.fst ≤ 1048576)) (br (!nameOk e.snd.snd.fst) (R (some { av := vB false, obs := [], outs := [] })) (br (e.snd.fst != 1) (br (e.snd.fst != 2) (R (some { av := vB false, obs := [], outs := [] })) (br (!ptrOk e.snd.snd.snd.snd.snd.snd.snd.snd.snd.snd.snd.snd.snd.snd.snd.snd.snd.snd.snd.snd.snd.snd.snd.snd.snd.snd.snd.fst e.snd.snd.snd.snd.snd.snd.snd.snd.snd.snd.snd.snd.snd.snd.snd.snd.snd.snd.snd.snd.snd.snd.snd.snd.snd.snd.snd.snd.fst e.snd.snd.snd.snd.snd.snd.snd.snd.snd.snd.snd.snd.snd.snd.snd.snd.snd.snd.snd.snd.snd.snd.snd.snd.snd.snd.snd.snd.snd.fst) (R (some { av := vB false, obs := [], outs := [] })) (R (some { av := vB !anyB (mps e).length fun i => !pOk (atP (mps e) i), obs := [], outs := [] })))) (br (!ptrOk e.snd.snd.snd.snd.snd.snd.snd.snd.snd.snd.snd.snd.snd.snd.snd.snd.snd.snd.snd.snd.snd.snd.snd.snd.snd.snd.snd.fst e.snd.snd.snd.snd.snd.snd.snd.snd.snd.snd.snd.snd.snd.snd.snd.snd.snd.snd.snd.snd.snd.snd.snd.snd.snd.snd.snd.snd.fst e.snd.snd.snd.snd.snd.snd.snd.snd.snd.snd.snd.snd.snd.snd.snd.snd.snd.snd.snd.snd.snd.snd.snd.snd.snd.snd.snd.snd.snd.fst) (R (some { av := vB false, obs := [], outs := [] })) (R (some { av := vB !anyB (mps e).length fun i => !pOk (atP (mps e) i), obs := [], outs := [] }))))) False) (br (e.snd.fst != 1) (br (e.snd.fst != 2) (R (some { av := vB false, obs := [], outs := [] })) (br (!ptrOk e.snd.snd.snd.snd.snd.snd.snd.snd.snd.snd.snd.snd.snd.snd.snd.snd.snd.snd.snd.snd.snd.snd.snd.snd.snd.snd.snd.fst e.snd.snd.snd.snd.snd.snd.snd.snd.snd.snd.snd.snd.snd.snd.snd.snd.snd.snd.snd.snd.snd.snd.snd.snd.snd.snd.snd.snd.fst e.snd.snd.snd.snd.snd.snd.snd.snd.snd.snd.snd.snd.snd.snd.snd.snd.snd.snd.snd.snd.snd.snd.snd.snd.snd.snd.snd.snd.snd.fst) (R (some { av := vB false, obs := [], outs := [] })) (R (some { av := vB !anyB (mps e).length fun i => !pOk (atP (mps e) i), obs := [], outs := [] })))) (br (!ptrOk e.snd.snd.snd.snd.snd.snd.snd.snd.snd.snd.snd.snd.snd.snd.snd.snd.snd.snd.snd.snd.snd.snd.snd.snd.snd.snd.snd.fst e.snd.snd.snd.snd.snd.snd.snd.snd.snd.snd.snd.snd.snd.snd.snd.snd.snd.snd.snd.snd.snd.snd.snd.snd.snd.snd.snd.snd.fst e.snd.snd.snd.snd.snd.snd.snd.snd.snd.snd.snd.snd.snd.snd.snd.snd.snd.snd.snd.snd.snd.snd.snd.snd.snd.snd.snd.snd.snd.fst) (R (some { av := vB false, obs := [], outs := [] })) (R (some { av := vB !anyB (mps e).length fun i => !pOk (atP (mps e) i), obs := [], outs := [] })))))) False) := by kernel_rfl
theorem any8p (e : Elem kc) : (anyB (mps e).length fun j => !pOk (atP (mps e) j)) = !allB 8 fun j => pOk (atP (mps e) j) := by
  rw [anyB_all]
  congr 1
  refine allB_congr fun j hj => ?_
  rw [Bool.not_not]
theorem h69 : G1Ok Tryd.prog 69 g52 := by
  intro args obs k h
  unfold g52 at h
  split at h
  · rename_i k us
    split at h
    rotate_left
    · exact h.elim
    rename_i e he
    obtain rfl := elemOf_inv he
    obtain ⟨hs, h⟩ := br_and h
    unfold smC at hs
    rw [Bool.and_eq_true] at hs
    refine ⟨_, ctr_fn okf hg69 Tryd.func69 (by kernel_rfl) (by kernel_rfl) (by kernel_rfl) fun C => ?_, h⟩
    show bodyP Ef G69 _ Tryd.f69 [.agg (setK e)] [] _
    rw [e69]
    refine br_t hs.1 (br_not (fun h1 => ?_) (fun h1 => (fun (tail : (strEq e.2.2.1 ⟨#[]⟩ || nameOk e.2.2.1) = true → _) => br_not (fun h2 => br_t hs.2 (br_not (fun h3 => ?_) (fun h3 => tail ?_))) (fun h2 => tail ?_)) (fun hf => ?_)))
    · show _ = _
      rw [setV_n h1]
    · show _ = _
      rw [setV_f (by rw [h2, h3]; rfl)]
    · rw [h3, Bool.or_true]
    · rw [h2, Bool.true_or]
    refine (fun (tail : (e.2.1 == 1 || e.2.1 == 2) = true → _) => br_bne (fun h5 => br_bne (fun h6 => ?_) (fun h6 => tail ?_)) (fun h5 => tail ?_)) (fun hk => br_not (fun h6 => ?_) (fun h6 => ?_))
    · show _ = _
      rw [setV_k (by rw [h5, h6]; rfl)]
    · rw [h6, Bool.or_true]
    · rw [h5, Bool.true_or]
    · show _ = _
      rw [setV_h h6]
    · show _ = _
      rw [any8p, Bool.not_not]
      cases h7 : allB 8 fun j => pOk (atP (mps e) j) with
      | false => rw [setV_b h7]
      | true => rw [setV_t h1 hf hk h6 h7]
  · exact h.elim
end Go.Proofs.YtljilcingbohkabDoor.Ev
