/- The law of DiskOk. -/
import Derived.Test.YtkjnijddbiconaaGreatDoorK1
namespace Go.Proofs.YtkjnijddbiconaaGreatDoor.Ev
open Go
set_option linter.unusedVariables false
set_option linter.unusedSimpArgs false
set_option maxRecDepth 100000
def longT (e : Elem ks) : Bool := decide ((e.1.size : Int) > 420)
def g154 : G1
  | [.val (.string s)], [], k => k ⟨.val (.bool (decide ((s.size : Int) > 420))), [], []⟩
  | _, _, _ => False
def anyLong (xs : List (Elem ks)) : Bool := anyB xs.length fun i => longT (xs.getD i (edflt ks))
def g213l : G1
  | [.rsl [.str] xs, .fn 154 []], [], k => br (decide (xs.length ≤ 1048576)) (k ⟨.val (.int .i64 (fIx xs.length fun i => longT (xs.getD i (edflt ks)))), [], []⟩) False
  | _, _, _ => False
def g153l : G1
  | [.rsl [.str] xs, .fn 154 []], [], k => br (decide (xs.length ≤ 1048576)) (k ⟨.val (.bool (anyLong xs)), [], []⟩) False
  | _, _, _ => False
def secOk (n : Nat) (s i : Int) : Bool := decide (0 ≤ s) && decide (s ≤ 1) && decide (0 ≤ i) && decide (i < (n : Int))
def g157 : G1
  | [.agg [.rsl [.str] a, .rsl [.str] b, .rsl [.int .i64, .int .i64, .str] c], .val (.int .i64 s), .val (.int .i64 i)], [], k => br (decide (a.length ≤ 1048576)) (k ⟨.val (.bool (secOk a.length s i)), [], []⟩) False
  | _, _, _ => False
def badL (n : Nat) (e : Elem kl) : Bool := !secOk n e.1 e.2.1 || decide ((e.2.2.1.size : Int) > 420)
def g156 : G1
  | [.agg [.val (.int .i64 s), .val (.int .i64 i), .val (.string t)], .rpt [.rsl [.str] a, .rsl [.str] b, .rsl [.int .i64, .int .i64, .str] c]], [], k => br (decide (a.length ≤ 1048576)) (k ⟨.val (.bool (badL a.length (s, i, t, ()))), [], []⟩) False
  | _, _, _ => False
def anyBad (n : Nat) (xs : List (Elem kl)) : Bool := anyB xs.length fun i => badL n (xs.getD i (edflt kl))
def g214 : G1
  | [.rsl [.int .i64, .int .i64, .str] xs, .fn 156 [.rpt [.rsl [.str] a, .rsl [.str] b, .rsl [.int .i64, .int .i64, .str] c]]], [], k =>
    br (decide (a.length ≤ 1048576) && decide (xs.length ≤ 1048576)) (k ⟨.val (.int .i64 (fIx xs.length fun i => badL a.length (xs.getD i (edflt kl)))), [], []⟩) False
  | _, _, _ => False
def g155 : G1
  | [.rsl [.int .i64, .int .i64, .str] xs, .fn 156 [.rpt [.rsl [.str] a, .rsl [.str] b, .rsl [.int .i64, .int .i64, .str] c]]], [], k =>
    br (decide (a.length ≤ 1048576) && decide (xs.length ≤ 1048576)) (k ⟨.val (.bool (anyBad a.length xs)), [], []⟩) False
  | _, _, _ => False
def dkOk (a b : List (Elem ks)) (c : List (Elem kl)) : Bool :=
  decide (1 ≤ a.length) && decide (a.length ≤ 120) && decide (b.length = a.length) && decide (c.length ≤ 600) && !anyLong a && !anyLong b && !anyBad a.length c
def g84 : G1
  | [.agg [.rsl [.str] a, .rsl [.str] b, .rsl [.int .i64, .int .i64, .str] c]], [], k => br (smD a b c) (k ⟨.val (.bool (dkOk a b c)), [], []⟩) False
  | _, _, _ => False
def g148 : G1
  | [.agg [.rsl [.str] a, .rsl [.str] b, .rsl [.int .i64, .int .i64, .str] c], .val (.int .i64 s), .val (.int .i64 i), .val (.string t)], [], k => k ⟨.val (.bool (secOk a.length s i && decide ((t.size : Int) ≤ 420))), [], []⟩
  | _, _, _ => False
noncomputable def E154 : Env := E0.of Tryz.f154
noncomputable def G154 : Gk := gk []
noncomputable def lp154 (n : Nat) : Code := (loopOf n (codeOf Tryz.f154)).getD .skip
noncomputable def ct154 (L : Lp) (R : Option Res → Prop) (n : Nat) : Kt := contOf E154 G154 L n (codeOf Tryz.f154) (endK E154 Tryz.f154.results.toList R)
noncomputable def rk154 (L : Lp) (R : Option Res → Prop) (n : Nat) (N : St → Prop) : Kt := rk (jof E154 (lp154 n)) N (ct154 L R n)
noncomputable def rkn154 (L : Lp) (R : Option Res → Prop) (n : Nat) (N : St → Prop) (m : Nat) (N2 : St → Prop) : Kt := rk (jof E154 (lp154 m)) N2 (contOf E154 G154 L m (lp154 n) (rk154 L R n N))
noncomputable def LOOPN154 (L : Lp) (R : Option Res → Prop) (n : Nat) (N : St → Prop) (m : Nat) (st : St) : Prop := L (lp154 m) st (contOf E154 G154 L m (lp154 n) (rk154 L R n N))
noncomputable def LOOP154 (L : Lp) (R : Option Res → Prop) (n : Nat) (st : St) : Prop := L (lp154 n) st (ct154 L R n)
theorem hg154 : HG Tryz.prog G154 := hg_nil
theorem okf154 : Ok Tryz.prog E154 := ok0.of Tryz.f154
theorem e154 (L : Lp) (R : Option Res → Prop) (s : ByteArray) : (bodyP E0 G154 L Tryz.f154 [.val (.string s)] [] R) = (
    R (some { av := vB (decide ((↑s.size : Int) > 420)), obs := [], outs := [] })) := by kernel_rfl
theorem h154 : G1Ok Tryz.prog 154 g154 := by
  intro args obs k h
  unfold g154 at h
  split at h
  · rename_i k s
    refine ⟨_, ctr_fn ok0 hg154 Tryz.func154 (by kernel_rfl) (by kernel_rfl) (by kernel_rfl) fun C => ?_, h⟩
    rw [e154]
  · exact h.elim
noncomputable def E213l : Env := E0.of Tryz.f213
noncomputable def G213l : Gk := gk [(154, g154)]
noncomputable def lp213l (n : Nat) : Code := (loopOf n (codeOf Tryz.f213)).getD .skip
noncomputable def ct213l (L : Lp) (R : Option Res → Prop) (n : Nat) : Kt := contOf E213l G213l L n (codeOf Tryz.f213) (endK E213l Tryz.f213.results.toList R)
noncomputable def rk213l (L : Lp) (R : Option Res → Prop) (n : Nat) (N : St → Prop) : Kt := rk (jof E213l (lp213l n)) N (ct213l L R n)
noncomputable def rkn213l (L : Lp) (R : Option Res → Prop) (n : Nat) (N : St → Prop) (m : Nat) (N2 : St → Prop) : Kt := rk (jof E213l (lp213l m)) N2 (contOf E213l G213l L m (lp213l n) (rk213l L R n N))
noncomputable def LOOPN213l (L : Lp) (R : Option Res → Prop) (n : Nat) (N : St → Prop) (m : Nat) (st : St) : Prop := L (lp213l m) st (contOf E213l G213l L m (lp213l n) (rk213l L R n N))
noncomputable def LOOP213l (L : Lp) (R : Option Res → Prop) (n : Nat) (st : St) : Prop := L (lp213l n) st (ct213l L R n)
theorem hg213l : HG Tryz.prog G213l := (hg_cons h154 hg_nil)
theorem okf213l : Ok Tryz.prog E213l := ok0.of Tryz.f213
theorem e213l (L : Lp) (R : Option Res → Prop) (xs : List (Elem ks)) : (bodyP E0 G213l L Tryz.f213 [.rsl ks xs, .fn 154 []] [] R) = (
    LOOP213l L R 2 { tm := [AV.rsl ks xs, AV.fn 154 [], vU, vU, vI 0, vJ, vJ, vI (↑xs.length : Int), vI 0, vJ, vJ, vJ, vJ, vJ, vJ, vJ, vJ, vJ, vJ], ob := [], nx := 1000000, ps := [] }) := by kernel_rfl
def st213l (xs : List (Elem ks)) (i : Int) : St :=  ⟨[AV.rsl ks xs, AV.fn 154 [], vU, vU, vI 0, vJ, vJ, vI (↑xs.length : Int), .val (.int .i64 i), vJ, vJ, vJ, vJ, vJ, vJ, vJ, vJ, vJ, vJ], [], 1000000, []⟩
theorem b213l (L : Lp) (R : Option Res → Prop) (N : St → Prop) (xs : List (Elem ks)) (i : Int) : (evP E213l G213l L (lp213l 2) (st213l xs i) (rk213l L R 2 N)) = (
    br (decide (i < (↑xs.length : Int))) (br (decide (0 ≤ i ∧ i < (↑xs.length : Int))) (br (decide ((↑(ByteArray.size (xs.getD i.toNat (edflt ks)).fst) : Int) > 420)) (R (some { av := vI i, obs := [], outs := [] })) (N { tm := [AV.rsl ks xs, AV.fn 154 [], vU, vU, vI 0, vJ, vJ, vI (↑xs.length : Int), vI (IntKind.i64.wrap (i + 1)), vJ, vJ, vJ, vJ, vJ, vJ, vJ, vJ, vJ, vJ], ob := [], nx := 1000000, ps := [] })) False) (R (some { av := vI (-1), obs := [], outs := [] }))) := by kernel_rfl
theorem h213l : G1Ok Tryz.prog 213 g213l := by
  intro args obs k h
  unfold g213l at h
  split at h
  · rename_i k xs
    obtain ⟨hlen, h⟩ := brd h
    refine ⟨_, ctr_fn ok0 hg213l Tryz.func213 (by kernel_rfl) (by kernel_rfl) (by kernel_rfl) fun C => ?_, h⟩
    rw [e213l]
    exact loopFind okf213l hg213l (fun i => st213l xs i) xs.length (fun i => longT (xs.getD i (edflt ks))) (by omega) (fun N i hi hw next found none => by
      show evP E213l G213l _ (lp213l 2) (st213l xs i) (rk213l _ _ 2 _)
      rw [b213l, hw, Int.toNat_natCast]
      refine br_dec (fun h2 => br_yes ⟨by omega, h2⟩ (br_intro (fun h3 => ?_) (fun h3 => ?_))) (fun h2 => ?_)
      · show _ = _
        rw [found (by omega) h3]
      · exact next (by omega) h3
      · show _ = _
        rw [none (by omega)])
  · exact h.elim
noncomputable def E153l : Env := E0.of Tryz.f153
noncomputable def G153l : Gk := gk [(213, g213l)]
noncomputable def lp153l (n : Nat) : Code := (loopOf n (codeOf Tryz.f153)).getD .skip
noncomputable def ct153l (L : Lp) (R : Option Res → Prop) (n : Nat) : Kt := contOf E153l G153l L n (codeOf Tryz.f153) (endK E153l Tryz.f153.results.toList R)
noncomputable def rk153l (L : Lp) (R : Option Res → Prop) (n : Nat) (N : St → Prop) : Kt := rk (jof E153l (lp153l n)) N (ct153l L R n)
noncomputable def rkn153l (L : Lp) (R : Option Res → Prop) (n : Nat) (N : St → Prop) (m : Nat) (N2 : St → Prop) : Kt := rk (jof E153l (lp153l m)) N2 (contOf E153l G153l L m (lp153l n) (rk153l L R n N))
noncomputable def LOOPN153l (L : Lp) (R : Option Res → Prop) (n : Nat) (N : St → Prop) (m : Nat) (st : St) : Prop := L (lp153l m) st (contOf E153l G153l L m (lp153l n) (rk153l L R n N))
noncomputable def LOOP153l (L : Lp) (R : Option Res → Prop) (n : Nat) (st : St) : Prop := L (lp153l n) st (ct153l L R n)
theorem hg153l : HG Tryz.prog G153l := (hg_cons h213l hg_nil)
theorem okf153l : Ok Tryz.prog E153l := ok0.of Tryz.f153
theorem e153l (L : Lp) (R : Option Res → Prop) (xs : List (Elem ks)) : (bodyP E0 G153l L Tryz.f153 [.rsl ks xs, .fn 154 []] [] R) = (
    br (decide (xs.length ≤ 1048576)) (R (some { av := vB (decide ((fIx xs.length fun i => longT (xs.getD i (edflt ks))) ≥ 0)), obs := [], outs := [] })) False) := by kernel_rfl
theorem h153l : G1Ok Tryz.prog 153 g153l := by
  intro args obs k h
  unfold g153l at h
  split at h
  · rename_i k xs
    obtain ⟨hlen, h⟩ := brd h
    refine ⟨_, ctr_fn ok0 hg153l Tryz.func153 (by kernel_rfl) (by kernel_rfl) (by kernel_rfl) fun C => ?_, h⟩
    rw [e153l]
    refine br_yes hlen ?_
    show _ = _
    rw [fIx_ge]
    rfl
  · exact h.elim
noncomputable def E157 : Env := E0.of Tryz.f157
noncomputable def G157 : Gk := gk [(129, g129)]
noncomputable def lp157 (n : Nat) : Code := (loopOf n (codeOf Tryz.f157)).getD .skip
noncomputable def ct157 (L : Lp) (R : Option Res → Prop) (n : Nat) : Kt := contOf E157 G157 L n (codeOf Tryz.f157) (endK E157 Tryz.f157.results.toList R)
noncomputable def rk157 (L : Lp) (R : Option Res → Prop) (n : Nat) (N : St → Prop) : Kt := rk (jof E157 (lp157 n)) N (ct157 L R n)
noncomputable def rkn157 (L : Lp) (R : Option Res → Prop) (n : Nat) (N : St → Prop) (m : Nat) (N2 : St → Prop) : Kt := rk (jof E157 (lp157 m)) N2 (contOf E157 G157 L m (lp157 n) (rk157 L R n N))
noncomputable def LOOPN157 (L : Lp) (R : Option Res → Prop) (n : Nat) (N : St → Prop) (m : Nat) (st : St) : Prop := L (lp157 m) st (contOf E157 G157 L m (lp157 n) (rk157 L R n N))
noncomputable def LOOP157 (L : Lp) (R : Option Res → Prop) (n : Nat) (st : St) : Prop := L (lp157 n) st (ct157 L R n)
theorem hg157 : HG Tryz.prog G157 := (hg_cons h129 hg_nil)
theorem okf157 : Ok Tryz.prog E157 := ok0.of Tryz.f157
theorem e157 (L : Lp) (R : Option Res → Prop) (a b : List (Elem ks)) (c : List (Elem kl)) (s i : Int) : (bodyP E0 G157 L Tryz.f157 [.agg [.rsl ks a, .rsl ks b, .rsl kl c], .val (.int .i64 s), .val (.int .i64 i)] [] R) = (
    br (decide (0 ≤ s) && decide (s ≤ 1)) (R (some { av := vB (decide (0 ≤ i) && decide (i ≤ IntKind.i64.wrap ((↑a.length : Int) - 1))), obs := [], outs := [] })) (R (some { av := vB false, obs := [], outs := [] }))) := by kernel_rfl
theorem h157 : G1Ok Tryz.prog 157 g157 := by
  intro args obs k h
  unfold g157 at h
  split at h
  · rename_i k a b c s i
    obtain ⟨hlen, h⟩ := brd h
    refine ⟨_, ctr_fn ok0 hg157 Tryz.func157 (by kernel_rfl) (by kernel_rfl) (by kernel_rfl) fun C => ?_, h⟩
    rw [e157]
    rw [wrap_id (n := (a.length : Int) - 1) (by omega) (by omega)]
    refine br_intro (fun h1 => ?_) (fun h1 => ?_) <;> show _ = _ <;> unfold secOk <;> rw [h1]
    · have : decide (i ≤ (a.length : Int) - 1) = decide (i < (a.length : Int)) := by
        apply decide_eq_decide.2
        omega
      rw [this]
      rfl
    · rfl
  · exact h.elim
noncomputable def E156 : Env := E0.of Tryz.f156
noncomputable def G156 : Gk := gk [(154, g154), (157, g157)]
noncomputable def lp156 (n : Nat) : Code := (loopOf n (codeOf Tryz.f156)).getD .skip
noncomputable def ct156 (L : Lp) (R : Option Res → Prop) (n : Nat) : Kt := contOf E156 G156 L n (codeOf Tryz.f156) (endK E156 Tryz.f156.results.toList R)
noncomputable def rk156 (L : Lp) (R : Option Res → Prop) (n : Nat) (N : St → Prop) : Kt := rk (jof E156 (lp156 n)) N (ct156 L R n)
noncomputable def rkn156 (L : Lp) (R : Option Res → Prop) (n : Nat) (N : St → Prop) (m : Nat) (N2 : St → Prop) : Kt := rk (jof E156 (lp156 m)) N2 (contOf E156 G156 L m (lp156 n) (rk156 L R n N))
noncomputable def LOOPN156 (L : Lp) (R : Option Res → Prop) (n : Nat) (N : St → Prop) (m : Nat) (st : St) : Prop := L (lp156 m) st (contOf E156 G156 L m (lp156 n) (rk156 L R n N))
noncomputable def LOOP156 (L : Lp) (R : Option Res → Prop) (n : Nat) (st : St) : Prop := L (lp156 n) st (ct156 L R n)
theorem hg156 : HG Tryz.prog G156 := (hg_cons h154 (hg_cons h157 hg_nil))
theorem okf156 : Ok Tryz.prog E156 := ok0.of Tryz.f156
theorem e156 (L : Lp) (R : Option Res → Prop) (a b : List (Elem ks)) (c : List (Elem kl)) (s i : Int) (t : ByteArray) : (bodyP E0 G156 L Tryz.f156 [.agg [.val (.int .i64 s), .val (.int .i64 i), .val (.string t)], .rpt [.rsl ks a, .rsl ks b, .rsl kl c]] [] R) = (
    br (decide (a.length ≤ 1048576)) (br (!secOk a.length s i) (R (some { av := vB true, obs := [], outs := [] })) (R (some { av := vB (decide ((↑t.size : Int) > 420)), obs := [], outs := [] }))) False) := by kernel_rfl
theorem h156 : G1Ok Tryz.prog 156 g156 := by
  intro args obs k h
  unfold g156 at h
  split at h
  · rename_i k s i t a b c
    obtain ⟨hlen, h⟩ := brd h
    refine ⟨_, ctr_fn ok0 hg156 Tryz.func156 (by kernel_rfl) (by kernel_rfl) (by kernel_rfl) fun C => ?_, h⟩
    rw [e156]
    refine br_yes hlen (br_not (fun h1 => ?_) (fun h1 => ?_)) <;> show _ = _ <;> unfold badL <;> rw [h1] <;> rfl
  · exact h.elim
noncomputable def E214 : Env := E0.of Tryz.f214
noncomputable def G214 : Gk := gk [(156, g156)]
noncomputable def lp214 (n : Nat) : Code := (loopOf n (codeOf Tryz.f214)).getD .skip
noncomputable def ct214 (L : Lp) (R : Option Res → Prop) (n : Nat) : Kt := contOf E214 G214 L n (codeOf Tryz.f214) (endK E214 Tryz.f214.results.toList R)
noncomputable def rk214 (L : Lp) (R : Option Res → Prop) (n : Nat) (N : St → Prop) : Kt := rk (jof E214 (lp214 n)) N (ct214 L R n)
noncomputable def rkn214 (L : Lp) (R : Option Res → Prop) (n : Nat) (N : St → Prop) (m : Nat) (N2 : St → Prop) : Kt := rk (jof E214 (lp214 m)) N2 (contOf E214 G214 L m (lp214 n) (rk214 L R n N))
noncomputable def LOOPN214 (L : Lp) (R : Option Res → Prop) (n : Nat) (N : St → Prop) (m : Nat) (st : St) : Prop := L (lp214 m) st (contOf E214 G214 L m (lp214 n) (rk214 L R n N))
noncomputable def LOOP214 (L : Lp) (R : Option Res → Prop) (n : Nat) (st : St) : Prop := L (lp214 n) st (ct214 L R n)
theorem hg214 : HG Tryz.prog G214 := (hg_cons h156 hg_nil)
theorem okf214 : Ok Tryz.prog E214 := ok0.of Tryz.f214
theorem e214 (L : Lp) (R : Option Res → Prop) (a b : List (Elem ks)) (c xs : List (Elem kl)) : (bodyP E0 G214 L Tryz.f214 [.rsl kl xs, .fn 156 [.rpt [.rsl ks a, .rsl ks b, .rsl kl c]]] [] R) = (
    LOOP214 L R 2 { tm := [AV.rsl kl xs, AV.fn 156 [AV.rpt [AV.rsl ks a, AV.rsl ks b, AV.rsl kl c]], vU, vU, vI 0, vJ, vJ, vI (↑xs.length : Int), vI 0, vJ, vJ, vJ, vJ, vJ, vJ, vJ, vJ, vJ, vJ], ob := [], nx := 1000000, ps := [] }) := by kernel_rfl
def st214 (a b : List (Elem ks)) (c xs : List (Elem kl)) (i : Int) : St :=  ⟨[AV.rsl kl xs, AV.fn 156 [AV.rpt [AV.rsl ks a, AV.rsl ks b, AV.rsl kl c]], vU, vU, vI 0, vJ, vJ, vI (↑xs.length : Int), .val (.int .i64 i), vJ, vJ, vJ, vJ, vJ, vJ, vJ, vJ, vJ, vJ], [], 1000000, []⟩
theorem b214 (L : Lp) (R : Option Res → Prop) (N : St → Prop) (a b : List (Elem ks)) (c xs : List (Elem kl)) (i : Int) : (evP E214 G214 L (lp214 2) (st214 a b c xs i) (rk214 L R 2 N)) = (
    br (decide (i < (↑xs.length : Int))) (br (decide (0 ≤ i ∧ i < (↑xs.length : Int))) (br (decide (a.length ≤ 1048576)) (br (badL a.length (xs.getD i.toNat (edflt kl))) (R (some { av := vI i, obs := [], outs := [] })) (N { tm := [AV.rsl kl xs, AV.fn 156 [AV.rpt [AV.rsl ks a, AV.rsl ks b, AV.rsl kl c]], vU, vU, vI 0, vJ, vJ, vI (↑xs.length : Int), vI (IntKind.i64.wrap (i + 1)), vJ, vJ, vJ, vJ, vJ, vJ, vJ, vJ, vJ, vJ], ob := [], nx := 1000000, ps := [] })) False) False) (R (some { av := vI (-1), obs := [], outs := [] }))) := by kernel_rfl
theorem h214 : G1Ok Tryz.prog 214 g214 := by
  intro args obs k h
  unfold g214 at h
  split at h
  · rename_i k xs a b c
    obtain ⟨ha, hlen, h⟩ := brb2 h
    rw [decide_eq_true_eq] at hlen
    refine ⟨_, ctr_fn ok0 hg214 Tryz.func214 (by kernel_rfl) (by kernel_rfl) (by kernel_rfl) fun C => ?_, h⟩
    rw [e214]
    exact loopFind okf214 hg214 (fun i => st214 a b c xs i) xs.length (fun i => badL a.length (xs.getD i (edflt kl))) (by omega) (fun N i hi hw next found none => by
      show evP E214 G214 _ (lp214 2) (st214 a b c xs i) (rk214 _ _ 2 _)
      rw [b214, hw, Int.toNat_natCast]
      refine br_dec (fun h2 => br_yes ⟨by omega, h2⟩ (br_t ha (br_intro (fun h3 => ?_) (fun h3 => ?_)))) (fun h2 => ?_)
      · show _ = _
        rw [found (by omega) h3]
      · exact next (by omega) h3
      · show _ = _
        rw [none (by omega)])
  · exact h.elim
noncomputable def E155 : Env := E0.of Tryz.f155
noncomputable def G155 : Gk := gk [(214, g214)]
noncomputable def lp155 (n : Nat) : Code := (loopOf n (codeOf Tryz.f155)).getD .skip
noncomputable def ct155 (L : Lp) (R : Option Res → Prop) (n : Nat) : Kt := contOf E155 G155 L n (codeOf Tryz.f155) (endK E155 Tryz.f155.results.toList R)
noncomputable def rk155 (L : Lp) (R : Option Res → Prop) (n : Nat) (N : St → Prop) : Kt := rk (jof E155 (lp155 n)) N (ct155 L R n)
noncomputable def rkn155 (L : Lp) (R : Option Res → Prop) (n : Nat) (N : St → Prop) (m : Nat) (N2 : St → Prop) : Kt := rk (jof E155 (lp155 m)) N2 (contOf E155 G155 L m (lp155 n) (rk155 L R n N))
noncomputable def LOOPN155 (L : Lp) (R : Option Res → Prop) (n : Nat) (N : St → Prop) (m : Nat) (st : St) : Prop := L (lp155 m) st (contOf E155 G155 L m (lp155 n) (rk155 L R n N))
noncomputable def LOOP155 (L : Lp) (R : Option Res → Prop) (n : Nat) (st : St) : Prop := L (lp155 n) st (ct155 L R n)
theorem hg155 : HG Tryz.prog G155 := (hg_cons h214 hg_nil)
theorem okf155 : Ok Tryz.prog E155 := ok0.of Tryz.f155
theorem e155 (L : Lp) (R : Option Res → Prop) (a b : List (Elem ks)) (c xs : List (Elem kl)) : (bodyP E0 G155 L Tryz.f155 [.rsl kl xs, .fn 156 [.rpt [.rsl ks a, .rsl ks b, .rsl kl c]]] [] R) = (
    br (decide (a.length ≤ 1048576) && decide (xs.length ≤ 1048576)) (R (some { av := vB (decide ((fIx xs.length fun i => badL a.length (xs.getD i (edflt kl))) ≥ 0)), obs := [], outs := [] })) False) := by kernel_rfl
theorem h155 : G1Ok Tryz.prog 155 g155 := by
  intro args obs k h
  unfold g155 at h
  split at h
  · rename_i k xs a b c
    obtain ⟨hp, h⟩ := br_and h
    refine ⟨_, ctr_fn ok0 hg155 Tryz.func155 (by kernel_rfl) (by kernel_rfl) (by kernel_rfl) fun C => ?_, h⟩
    rw [e155]
    refine br_t hp ?_
    show _ = _
    rw [fIx_ge]
    rfl
  · exact h.elim
noncomputable def E84 : Env := E0.of Tryz.f84
noncomputable def G84 : Gk := gk [(129, g129), (153, g153l), (155, g155)]
noncomputable def lp84 (n : Nat) : Code := (loopOf n (codeOf Tryz.f84)).getD .skip
noncomputable def ct84 (L : Lp) (R : Option Res → Prop) (n : Nat) : Kt := contOf E84 G84 L n (codeOf Tryz.f84) (endK E84 Tryz.f84.results.toList R)
noncomputable def rk84 (L : Lp) (R : Option Res → Prop) (n : Nat) (N : St → Prop) : Kt := rk (jof E84 (lp84 n)) N (ct84 L R n)
noncomputable def rkn84 (L : Lp) (R : Option Res → Prop) (n : Nat) (N : St → Prop) (m : Nat) (N2 : St → Prop) : Kt := rk (jof E84 (lp84 m)) N2 (contOf E84 G84 L m (lp84 n) (rk84 L R n N))
noncomputable def LOOPN84 (L : Lp) (R : Option Res → Prop) (n : Nat) (N : St → Prop) (m : Nat) (st : St) : Prop := L (lp84 m) st (contOf E84 G84 L m (lp84 n) (rk84 L R n N))
noncomputable def LOOP84 (L : Lp) (R : Option Res → Prop) (n : Nat) (st : St) : Prop := L (lp84 n) st (ct84 L R n)
theorem hg84 : HG Tryz.prog G84 := (hg_cons h129 (hg_cons h153l (hg_cons h155 hg_nil)))
theorem okf84 : Ok Tryz.prog E84 := ok0.of Tryz.f84
theorem e84 (L : Lp) (R : Option Res → Prop) (a b : List (Elem ks)) (c : List (Elem kl)) : (bodyP E0 G84 L Tryz.f84 [.agg [.rsl ks a, .rsl ks b, .rsl kl c]] [] R) = (
    br (!(decide (1 ≤ (↑a.length : Int)) && decide ((↑a.length : Int) ≤ 120))) (R (some { av := vB false, obs := [], outs := [] })) (br ((↑b.length : Int) != (↑a.length : Int)) (R (some { av := vB false, obs := [], outs := [] })) (br (decide (a.length ≤ 1048576)) (br (anyLong a) (R (some { av := vB false, obs := [], outs := [] })) (br (decide (b.length ≤ 1048576)) (br (anyLong b) (R (some { av := vB false, obs := [], outs := [] })) (br (decide ((↑c.length : Int) ≤ 600)) (br (decide (a.length ≤ 1048576) && decide (c.length ≤ 1048576)) (R (some { av := vB !anyBad a.length c, obs := [], outs := [] })) False) (R (some { av := vB false, obs := [], outs := [] })))) False)) False))) := by kernel_rfl
theorem h84 : G1Ok Tryz.prog 84 g84 := by
  intro args obs k h
  unfold g84 at h
  split at h
  · rename_i k a b c
    unfold smD at h
    obtain ⟨hp, hc, h⟩ := brb2 h
    rw [Bool.and_eq_true] at hp
    refine ⟨_, ctr_fn ok0 hg84 Tryz.func84 (by kernel_rfl) (by kernel_rfl) (by kernel_rfl) fun C => ?_, h⟩
    rw [e84]
    refine br_not (fun h1 => ?_) (fun h1 => br_intro (fun h2 => ?_) (fun h2 => br_t hp.1 (br_intro (fun h3 => ?_) (fun h3 => br_t hp.2 (br_intro (fun h4 => ?_) (fun h4 => br_dec (fun h5 => br_t ?_ ?_) (fun h5 => ?_)))))))
    · show _ = _
      simp [dkOk]
      simp at h1
      intro h6 h7
      omega
    · show _ = _
      have : ¬ b.length = a.length := fun e => by rw [e] at h2; simp at h2
      simp [dkOk, this]
    · show _ = _
      simp [dkOk, h3]
    · show _ = _
      simp [dkOk, h4]
    · rw [hp.1, hc]
      rfl
    · show _ = _
      have e1 : b.length = a.length := by simp at h2; omega
      simp at h1
      have e2 : 1 ≤ a.length := by omega
      have e3 : a.length ≤ 120 := by omega
      have e4 : c.length ≤ 600 := by omega
      simp [dkOk, h3, h4, e1, e2, e3, e4]
    · show _ = _
      have e4 : ¬ c.length ≤ 600 := by omega
      simp [dkOk, e4]
  · exact h.elim
noncomputable def E148 : Env := E0.of Tryz.f148
noncomputable def G148 : Gk := gk []
noncomputable def lp148 (n : Nat) : Code := (loopOf n (codeOf Tryz.f148)).getD .skip
noncomputable def ct148 (L : Lp) (R : Option Res → Prop) (n : Nat) : Kt := contOf E148 G148 L n (codeOf Tryz.f148) (endK E148 Tryz.f148.results.toList R)
noncomputable def rk148 (L : Lp) (R : Option Res → Prop) (n : Nat) (N : St → Prop) : Kt := rk (jof E148 (lp148 n)) N (ct148 L R n)
noncomputable def rkn148 (L : Lp) (R : Option Res → Prop) (n : Nat) (N : St → Prop) (m : Nat) (N2 : St → Prop) : Kt := rk (jof E148 (lp148 m)) N2 (contOf E148 G148 L m (lp148 n) (rk148 L R n N))
noncomputable def LOOPN148 (L : Lp) (R : Option Res → Prop) (n : Nat) (N : St → Prop) (m : Nat) (st : St) : Prop := L (lp148 m) st (contOf E148 G148 L m (lp148 n) (rk148 L R n N))
noncomputable def LOOP148 (L : Lp) (R : Option Res → Prop) (n : Nat) (st : St) : Prop := L (lp148 n) st (ct148 L R n)
theorem hg148 : HG Tryz.prog G148 := hg_nil
theorem okf148 : Ok Tryz.prog E148 := ok0.of Tryz.f148
theorem e148 (L : Lp) (R : Option Res → Prop) (a b : List (Elem ks)) (c : List (Elem kl)) (s i : Int) (t : ByteArray) : (bodyP E0 G148 L Tryz.f148 [.agg [.rsl ks a, .rsl ks b, .rsl kl c], .val (.int .i64 s), .val (.int .i64 i), .val (.string t)] [] R) = (
    br (decide (s ≥ 0)) (br (decide (s ≤ 1)) (br (decide (i ≥ 0)) (br (decide (i < (↑a.length : Int))) (R (some { av := vB (decide ((↑t.size : Int) ≤ 420)), obs := [], outs := [] })) (R (some { av := vB false, obs := [], outs := [] }))) (R (some { av := vB false, obs := [], outs := [] }))) (R (some { av := vB false, obs := [], outs := [] }))) (R (some { av := vB false, obs := [], outs := [] }))) := by kernel_rfl
theorem h148 : G1Ok Tryz.prog 148 g148 := by
  intro args obs k h
  unfold g148 at h
  split at h
  · rename_i k a b c s i t
    refine ⟨_, ctr_fn ok0 hg148 Tryz.func148 (by kernel_rfl) (by kernel_rfl) (by kernel_rfl) fun C => ?_, h⟩
    rw [e148]
    repeat' (first | refine br_dec (fun h => ?_) (fun h => ?_))
    all_goals show _ = _
    all_goals simp [secOk]
    all_goals omega
  · exact h.elim
noncomputable def E79 : Env := E0.of Tryz.f79
noncomputable def G79 : Gk := gk [(148, g148)]
noncomputable def lp79 (n : Nat) : Code := (loopOf n (codeOf Tryz.f79)).getD .skip
noncomputable def ct79 (L : Lp) (R : Option Res → Prop) (n : Nat) : Kt := contOf E79 G79 L n (codeOf Tryz.f79) (endK E79 Tryz.f79.results.toList R)
noncomputable def rk79 (L : Lp) (R : Option Res → Prop) (n : Nat) (N : St → Prop) : Kt := rk (jof E79 (lp79 n)) N (ct79 L R n)
noncomputable def rkn79 (L : Lp) (R : Option Res → Prop) (n : Nat) (N : St → Prop) (m : Nat) (N2 : St → Prop) : Kt := rk (jof E79 (lp79 m)) N2 (contOf E79 G79 L m (lp79 n) (rk79 L R n N))
noncomputable def LOOPN79 (L : Lp) (R : Option Res → Prop) (n : Nat) (N : St → Prop) (m : Nat) (st : St) : Prop := L (lp79 m) st (contOf E79 G79 L m (lp79 n) (rk79 L R n N))
noncomputable def LOOP79 (L : Lp) (R : Option Res → Prop) (n : Nat) (st : St) : Prop := L (lp79 n) st (ct79 L R n)
theorem hg79 : HG Tryz.prog G79 := (hg_cons h148 hg_nil)
theorem okf79 : Ok Tryz.prog E79 := ok0.of Tryz.f79
theorem e79 (L : Lp) (R : Option Res → Prop) (a b : List (Elem ks)) (c : List (Elem kl)) : (bodyP E0 G79 L Tryz.f79 [.agg [.rsl ks a, .rsl ks b, .rsl kl c]] [] R) = (
    br (decide ((↑a.length : Int) < 1)) (R (some { av := vB false, obs := [], outs := [] })) (br (decide ((↑a.length : Int) > 120)) (R (some { av := vB false, obs := [], outs := [] })) (br ((↑b.length : Int) != (↑a.length : Int)) (R (some { av := vB false, obs := [], outs := [] })) (br (decide ((↑c.length : Int) > 600)) (R (some { av := vB false, obs := [], outs := [] })) (LOOP79 L R 5 { tm := [AV.agg [AV.rsl ks a, AV.rsl ks b, AV.rsl kl c], AV.ptr 0 0, vB false, vI (↑a.length : Int), vI 0, vU, vJ, vJ, vJ, vJ, vJ, vJ, vJ, vJ, vJ, vJ, vJ, vJ, vJ, vJ, vJ, vJ, vJ, vJ, vJ, vJ, vJ, vJ, vJ, vJ, vJ, vJ, vJ, vJ, vJ, vJ, vJ, vJ, vJ, vJ, vJ, vJ, vJ, vJ, vJ, vJ, vJ, vJ, vJ, vJ, vJ, vJ, vJ, vU, vU, vU, vU, vU, vU, vU, vU, vU, vU, vU, vU, vU, vU, vU, vU, vU, vU, vU, vU, vU, vU, vU, vU, vU, vU, vU, vU], ob := [(0, AO.box [AV.rsl ks a, AV.rsl ks b, AV.rsl kl c])], nx := 1000000, ps := [] }))))) := by kernel_rfl
def st79 (a b : List (Elem ks)) (c : List (Elem kl)) (i : Int) : St :=  ⟨[AV.agg [AV.rsl ks a, AV.rsl ks b, AV.rsl kl c], AV.ptr 0 0, vB false, vI (↑a.length : Int), .val (.int .i64 i), vU, vJ, vJ, vJ, vJ, vJ, vJ, vJ, vJ, vJ, vJ, vJ, vJ, vJ, vJ, vJ, vJ, vJ, vJ, vJ, vJ, vJ, vJ, vJ, vJ, vJ, vJ, vJ, vJ, vJ, vJ, vJ, vJ, vJ, vJ, vJ, vJ, vJ, vJ, vJ, vJ, vJ, vJ, vJ, vJ, vJ, vJ, vJ, vU, vU, vU, vU, vU, vU, vU, vU, vU, vU, vU, vU, vU, vU, vU, vU, vU, vU, vU, vU, vU, vU, vU, vU, vU, vU, vU, vU], [(0, AO.box [AV.rsl ks a, AV.rsl ks b, AV.rsl kl c])], 1000000, []⟩
theorem b79 (L : Lp) (R : Option Res → Prop) (N : St → Prop) (a b : List (Elem ks)) (c : List (Elem kl)) (i : Int) : (evP E79 G79 L (lp79 5) (st79 a b c i) (rk79 L R 5 N)) = (
    br (decide (i < (↑a.length : Int))) (br (decide (0 ≤ i ∧ i < (↑a.length : Int))) (br (decide ((↑(ByteArray.size (a.getD i.toNat (edflt ks)).fst) : Int) > 420)) (R (some { av := vB false, obs := [], outs := [] })) (br (decide (0 ≤ i ∧ i < (↑b.length : Int))) (br (decide ((↑(ByteArray.size (b.getD i.toNat (edflt ks)).fst) : Int) > 420)) (R (some { av := vB false, obs := [], outs := [] })) (N { tm := [AV.agg [AV.rsl ks a, AV.rsl ks b, AV.rsl kl c], AV.ptr 0 0, vB false, vI (↑a.length : Int), vI (IntKind.i64.wrap (i + 1)), vU, vJ, vJ, vJ, vJ, vJ, vJ, vJ, vJ, vJ, vJ, vJ, vJ, vJ, vJ, vJ, vJ, vJ, vJ, vJ, vJ, vJ, vJ, vJ, vJ, vJ, vJ, vJ, vJ, vJ, vJ, vJ, vJ, vJ, vJ, vJ, vJ, vJ, vJ, vJ, vJ, vJ, vJ, vJ, vJ, vJ, vJ, vJ, vU, vU, vU, vU, vU, vU, vU, vU, vU, vU, vU, vU, vU, vU, vU, vU, vU, vU, vU, vU, vU, vU, vU, vU, vU, vU, vU, vU], ob := [(0, AO.box [AV.rsl ks a, AV.rsl ks b, AV.rsl kl c])], nx := 1000000, ps := [] })) False)) False) (LOOP79 L R 10 { tm := [AV.agg [AV.rsl ks a, AV.rsl ks b, AV.rsl kl c], AV.ptr 0 0, vB false, vJ, vJ, vI 0, vJ, vJ, vJ, vJ, vJ, vJ, vJ, vJ, vJ, vJ, vJ, vJ, vJ, vJ, vJ, vJ, vJ, vJ, vJ, vJ, vJ, vJ, vJ, vJ, vJ, vJ, vJ, vJ, vJ, vJ, vJ, vJ, vJ, vJ, vJ, vJ, vJ, vJ, vJ, vJ, vJ, vJ, vJ, vJ, vJ, vJ, vJ, vJ, vJ, vJ, vJ, vJ, vJ, vJ, vJ, vJ, vJ, vJ, vJ, vJ, vJ, vJ, vJ, vJ, vJ, vJ, vJ, vJ, vJ, vJ, vJ, vJ, vJ, vJ, vJ], ob := [(0, AO.box [AV.rsl ks a, AV.rsl ks b, AV.rsl kl c])], nx := 1000000, ps := [] })) := by kernel_rfl
def st79b (a b : List (Elem ks)) (c : List (Elem kl)) (i j : Int) : St :=  ⟨[AV.agg [AV.rsl ks a, AV.rsl ks b, AV.rsl kl c], AV.ptr 0 0, vB false, vJ, vJ, .val (.int .i64 j), vJ, vJ, vJ, vJ, vJ, vJ, vJ, vJ, vJ, vJ, vJ, vJ, vJ, vJ, vJ, vJ, vJ, vJ, vJ, vJ, vJ, vJ, vJ, vJ, vJ, vJ, vJ, vJ, vJ, vJ, vJ, vJ, vJ, vJ, vJ, vJ, vJ, vJ, vJ, vJ, vJ, vJ, vJ, vJ, vJ, vJ, vJ, vJ, vJ, vJ, vJ, vJ, vJ, vJ, vJ, vJ, vJ, vJ, vJ, vJ, vJ, vJ, vJ, vJ, vJ, vJ, vJ, vJ, vJ, vJ, vJ, vJ, vJ, vJ, vJ], [(0, AO.box [AV.rsl ks a, AV.rsl ks b, AV.rsl kl c])], 1000000, []⟩
theorem b79b (L : Lp) (R : Option Res → Prop) (N : St → Prop) (a b : List (Elem ks)) (c : List (Elem kl)) (i j : Int) : (evP E79 G79 L (lp79 10) (st79b a b c i j) (rk79 L R 10 N)) = (
    br (decide (j < (↑c.length : Int))) (br (decide (0 ≤ j ∧ j < (↑c.length : Int))) (br (decide (0 ≤ j ∧ j < (↑c.length : Int))) (br (decide (0 ≤ j ∧ j < (↑c.length : Int))) (br (!(secOk a.length (c.getD j.toNat (edflt kl)).fst (c.getD j.toNat (edflt kl)).snd.fst && decide ((↑(ByteArray.size (c.getD j.toNat (edflt kl)).snd.snd.fst) : Int) ≤ 420))) (R (some { av := vB false, obs := [], outs := [] })) (N { tm := [AV.agg [AV.rsl ks a, AV.rsl ks b, AV.rsl kl c], AV.ptr 0 0, vB false, vJ, vJ, vI (IntKind.i64.wrap (j + 1)), vJ, vJ, vJ, vJ, vJ, vJ, vJ, vJ, vJ, vJ, vJ, vJ, vJ, vJ, vJ, vJ, vJ, vJ, vJ, vJ, vJ, vJ, vJ, vJ, vJ, vJ, vJ, vJ, vJ, vJ, vJ, vJ, vJ, vJ, vJ, vJ, vJ, vJ, vJ, vJ, vJ, vJ, vJ, vJ, vJ, vJ, vJ, vJ, vJ, vJ, vJ, vJ, vJ, vJ, vJ, vJ, vJ, vJ, vJ, vJ, vJ, vJ, vJ, vJ, vJ, vJ, vJ, vJ, vJ, vJ, vJ, vJ, vJ, vJ, vJ], ob := [(0, AO.box [AV.rsl ks a, AV.rsl ks b, AV.rsl kl c])], nx := 1000000, ps := [] })) False) False) False) (R (some { av := vB true, obs := [], outs := [] }))) := by kernel_rfl
theorem dkOk_f1 {a b : List (Elem ks)} {c : List (Elem kl)} (h : anyLong a = true) : dkOk a b c = false := by simp [dkOk, h]
theorem dkOk_f2 {a b : List (Elem ks)} {c : List (Elem kl)} (h : anyLong b = true) : dkOk a b c = false := by simp [dkOk, h]
theorem dkOk_f3 {a b : List (Elem ks)} {c : List (Elem kl)} (h : anyBad a.length c = true) : dkOk a b c = false := by simp [dkOk, h]
theorem h79 : G1Ok Tryz.prog 79 g84 := by
  intro args obs k h
  unfold g84 at h
  split at h
  · rename_i k a b c
    unfold smD at h
    obtain ⟨hp, hc, h⟩ := brb2 h
    rw [decide_eq_true_eq] at hc
    refine ⟨_, ctr_fn ok0 hg79 Tryz.func79 (by kernel_rfl) (by kernel_rfl) (by kernel_rfl) fun C => ?_, h⟩
    rw [e79]
    refine br_dec (fun h1 => ?_) (fun h1 => br_dec (fun h2 => ?_) (fun h2 => br_intro (fun h3 => ?_) (fun h3 => br_dec (fun h4 => ?_) (fun h4 => ?_))))
    · show _ = _
      have : ¬ 1 ≤ a.length := by omega
      simp [dkOk, this]
    · show _ = _
      have : ¬ a.length ≤ 120 := by omega
      simp [dkOk, this]
    · show _ = _
      have : ¬ b.length = a.length := fun e => by rw [e] at h3; simp at h3
      simp [dkOk, this]
    · show _ = _
      have : ¬ c.length ≤ 600 := by omega
      simp [dkOk, this]
    have e1 : b.length = a.length := by simp at h3; omega
    have e2 : 1 ≤ a.length := by omega
    have e3 : a.length ≤ 120 := by omega
    have e4 : c.length ≤ 600 := by omega
    refine loopUp okf79 hg79 (α := Unit) (fun i _ => st79 a b c i) a.length (fun i _ => ∀ j, j < i → longT (a.getD j (edflt ks)) = false ∧ longT (b.getD j (edflt ks)) = false) (fun N i _ hi hall next => ?_) () (fun j hj => by omega)
    show evP E79 G79 _ (lp79 5) (st79 a b c i) (rk79 _ _ 5 _)
    rw [b79, wrap_id (n := (i : Int) + 1) (by omega) (by omega), Int.toNat_natCast]
    refine br_dec (fun h5 => br_yes ⟨by omega, h5⟩ (br_intro (fun h6 => ?_) (fun h6 => br_yes ⟨by omega, by omega⟩ (br_intro (fun h7 => ?_) (fun h7 => ?_))))) (fun h5 => ?_)
    · show _ = _
      rw [dkOk_f1 (anyB_t (i := i) (by omega) h6)]
    · show _ = _
      rw [dkOk_f2 (anyB_t (i := i) (by omega) h7)]
    · refine next (by omega) () (fun j hj => ?_)
      by_cases e : j < i
      · exact hall j e
      · have : j = i := by omega
        rw [this]
        exact ⟨h6, h7⟩
    · have l1 : anyLong a = false := anyB_f fun j hj => (hall j (by omega)).1
      have l2 : anyLong b = false := anyB_f fun j hj => (hall j (by omega)).2
      have res : ∀ x, anyBad a.length c = x → dkOk a b c = !x := by
        intro x hx
        simp [dkOk, l1, l2, hx, e1, e2, e3, e4]
      refine loopAll okf79 hg79 (fun j => st79b a b c i j) c.length (fun j => !badL a.length (c.getD j (edflt kl))) (by omega) (fun N j hj hw next fails done => ?_)
      show evP E79 G79 _ (lp79 10) (st79b a b c i j) (rk79 _ _ 10 _)
      rw [b79b, hw, Int.toNat_natCast]
      have e : (!badL a.length (c.getD j (edflt kl))) = (secOk a.length (c.getD j (edflt kl)).1 (c.getD j (edflt kl)).2.1 && decide (((c.getD j (edflt kl)).2.2.1.size : Int) ≤ 420)) := by
        unfold badL
        rw [Bool.not_or, Bool.not_not]
        congr 1
        rw [Bool.eq_iff_iff]
        simp
      rw [← e]
      refine br_dec (fun h8 => br_yes ⟨by omega, h8⟩ (br_yes ⟨by omega, h8⟩ (br_yes ⟨by omega, h8⟩ (br_not (fun h9 => ?_) (fun h9 => ?_))))) (fun h8 => ?_)
      · show _ = _
        rw [res _ (anyB_t (i := j) (by omega) (by simpa using h9))]
        rfl
      · exact next (by omega) h9
      · show _ = _
        have := done (by omega)
        rw [res false (anyB_f fun q hq => by simpa using allB_at this hq)]
        rfl
  · exact h.elim
end Go.Proofs.YtkjnijddbiconaaGreatDoor.Ev
