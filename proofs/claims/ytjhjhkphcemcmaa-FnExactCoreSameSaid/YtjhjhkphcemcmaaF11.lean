/- The law of DiskOk. -/
import Derived.Test.YtjhjhkphcemcmaaF10
namespace Go.Proofs.Ytjhjhkphcemcmaa.Ev
open Go
set_option linter.unusedVariables false
set_option linter.unusedSimpArgs false
set_option maxRecDepth 100000
def longT (e : Elem ks) : Bool := decide ((e.1.size : Int) > 420)
def g93 : G1
  | [.val (.string s)], [], k => k ⟨.val (.bool (decide ((s.size : Int) > 420))), [], []⟩
  | _, _, _ => False
def anyLong (xs : List (Elem ks)) : Bool := anyB xs.length fun i => longT (xs.getD i (edflt ks))
def g135 : G1
  | [.rsl [.str] xs, .fn 93 []], [], k => br (decide (xs.length ≤ 1048576)) (k ⟨.val (.int .i64 (fIx xs.length fun i => longT (xs.getD i (edflt ks)))), [], []⟩) False
  | _, _, _ => False
def g92 : G1
  | [.rsl [.str] xs, .fn 93 []], [], k => br (decide (xs.length ≤ 1048576)) (k ⟨.val (.bool (anyLong xs)), [], []⟩) False
  | _, _, _ => False
def secOk (n : Nat) (s i : Int) : Bool := decide (0 ≤ s) && decide (s ≤ 1) && decide (0 ≤ i) && decide (i < (n : Int))
def g96 : G1
  | [.agg [.rsl [.str] a, .rsl [.str] b, .rsl [.int .i64, .int .i64, .str] c], .val (.int .i64 s), .val (.int .i64 i)], [], k => br (decide (a.length ≤ 1048576)) (k ⟨.val (.bool (secOk a.length s i)), [], []⟩) False
  | _, _, _ => False
def badL (n : Nat) (e : Elem kl) : Bool := !secOk n e.1 e.2.1 || decide ((e.2.2.1.size : Int) > 420)
def g95 : G1
  | [.agg [.val (.int .i64 s), .val (.int .i64 i), .val (.string t)], .rpt [.rsl [.str] a, .rsl [.str] b, .rsl [.int .i64, .int .i64, .str] c]], [], k => br (decide (a.length ≤ 1048576)) (k ⟨.val (.bool (badL a.length (s, i, t, ()))), [], []⟩) False
  | _, _, _ => False
def anyBad (n : Nat) (xs : List (Elem kl)) : Bool := anyB xs.length fun i => badL n (xs.getD i (edflt kl))
def g136 : G1
  | [.rsl [.int .i64, .int .i64, .str] xs, .fn 95 [.rpt [.rsl [.str] a, .rsl [.str] b, .rsl [.int .i64, .int .i64, .str] c]]], [], k =>
    br (decide (a.length ≤ 1048576) && decide (xs.length ≤ 1048576)) (k ⟨.val (.int .i64 (fIx xs.length fun i => badL a.length (xs.getD i (edflt kl)))), [], []⟩) False
  | _, _, _ => False
def g94 : G1
  | [.rsl [.int .i64, .int .i64, .str] xs, .fn 95 [.rpt [.rsl [.str] a, .rsl [.str] b, .rsl [.int .i64, .int .i64, .str] c]]], [], k =>
    br (decide (a.length ≤ 1048576) && decide (xs.length ≤ 1048576)) (k ⟨.val (.bool (anyBad a.length xs)), [], []⟩) False
  | _, _, _ => False
def okD (a b : List (Elem ks)) (c : List (Elem kl)) : Bool :=
  decide (1 ≤ a.length) && decide (a.length ≤ 120) && decide (b.length = a.length) && decide (c.length ≤ 600) && !anyLong a && !anyLong b && !anyBad a.length c
def g45 : G1
  | [.agg [.rsl [.str] a, .rsl [.str] b, .rsl [.int .i64, .int .i64, .str] c]], [], k => br (smD a b c) (k ⟨.val (.bool (okD a b c)), [], []⟩) False
  | _, _, _ => False
def g91 : G1
  | [.agg [.rsl [.str] a, .rsl [.str] b, .rsl [.int .i64, .int .i64, .str] c], .val (.int .i64 s), .val (.int .i64 i), .val (.string t)], [], k => k ⟨.val (.bool (secOk a.length s i && decide ((t.size : Int) ≤ 420))), [], []⟩
  | _, _, _ => False
noncomputable def E93 : Env := E0.of Try.f93
noncomputable def G93 : Gk := gk []
noncomputable def lp93 (n : Nat) : Code := (loopOf n (codeOf Try.f93)).getD .skip
noncomputable def ct93 (L : Lp) (R : Option Res → Prop) (n : Nat) : Kt := contOf E93 G93 L n (codeOf Try.f93) (endK E93 Try.f93.results.toList R)
noncomputable def rk93 (L : Lp) (R : Option Res → Prop) (n : Nat) (N : St → Prop) : Kt := rk (jof E93 (lp93 n)) N (ct93 L R n)
noncomputable def LOOP93 (L : Lp) (R : Option Res → Prop) (n : Nat) (st : St) : Prop := L (lp93 n) st (ct93 L R n)
theorem hg93 : HG Try.prog G93 := hg_nil
theorem okf93 : Ok Try.prog E93 := ok0.of Try.f93
theorem e93 (L : Lp) (R : Option Res → Prop) (s : ByteArray) : (bodyP E0 G93 L Try.f93 [.val (.string s)] [] R) = (
    R (some { av := AV.val (Value.bool (decide ((↑s.size : Int) > 420))), obs := [], outs := [] })) := by kernel_rfl
theorem h93 : G1Ok Try.prog 93 g93 := by
  intro args obs k h
  unfold g93 at h
  split at h
  · rename_i k s
    refine ⟨_, ctr_fn ok0 hg93 Try.func93 (by kernel_rfl) (by kernel_rfl) (by kernel_rfl) fun C => ?_, h⟩
    rw [e93]
  · exact h.elim
noncomputable def E135 : Env := E0.of Try.f135
noncomputable def G135 : Gk := gk [(93, g93)]
noncomputable def lp135 (n : Nat) : Code := (loopOf n (codeOf Try.f135)).getD .skip
noncomputable def ct135 (L : Lp) (R : Option Res → Prop) (n : Nat) : Kt := contOf E135 G135 L n (codeOf Try.f135) (endK E135 Try.f135.results.toList R)
noncomputable def rk135 (L : Lp) (R : Option Res → Prop) (n : Nat) (N : St → Prop) : Kt := rk (jof E135 (lp135 n)) N (ct135 L R n)
noncomputable def LOOP135 (L : Lp) (R : Option Res → Prop) (n : Nat) (st : St) : Prop := L (lp135 n) st (ct135 L R n)
theorem hg135 : HG Try.prog G135 := (hg_cons h93 hg_nil)
theorem okf135 : Ok Try.prog E135 := ok0.of Try.f135
theorem e135 (L : Lp) (R : Option Res → Prop) (xs : List (Elem ks)) : (bodyP E0 G135 L Try.f135 [.rsl ks xs, .fn 93 []] [] R) = (
    LOOP135 L R 2
      {
        tm :=
          [AV.rsl [CK.str] xs, AV.fn 93 [], AV.val (Value.tuple #[]), AV.val (Value.tuple #[]),
            AV.val (Value.int IntKind.i64 0), AV.junk, AV.rsl [CK.str] xs,
            AV.val (Value.int IntKind.i64 (↑xs.length : Int)), AV.val (Value.int IntKind.i64 0), AV.junk, AV.junk, AV.junk,
            AV.junk, AV.junk, AV.junk, AV.junk, AV.junk, AV.junk, AV.junk],
        ob := [], nx := 1000000, ps := [] }) := by kernel_rfl
def st135 (xs : List (Elem ks)) (i : Int) : St :=
  ⟨[AV.rsl [CK.str] xs, AV.fn 93 [], AV.val (Value.tuple #[]), AV.val (Value.tuple #[]), AV.val (Value.int IntKind.i64 0), AV.junk, AV.rsl [CK.str] xs, AV.val (Value.int IntKind.i64 (↑xs.length : Int)), .val (.int .i64 i), AV.junk, AV.junk, AV.junk, AV.junk, AV.junk, AV.junk, AV.junk, AV.junk, AV.junk, AV.junk],
    [], 1000000, []⟩
theorem b135 (L : Lp) (R : Option Res → Prop) (N : St → Prop) (xs : List (Elem ks)) (i : Int) : (evP E135 G135 L (lp135 2) (st135 xs i) (rk135 L R 2 N)) = (
    br (decide (i < (↑xs.length : Int)))
      (br (decide (0 ≤ i ∧ i < (↑xs.length : Int)))
        (br (decide ((↑(ByteArray.size (xs.getD i.toNat (edflt [CK.str])).fst) : Int) > 420))
          (R (some { av := AV.val (Value.int IntKind.i64 i), obs := [], outs := [] }))
          (N
            {
              tm :=
                [AV.rsl [CK.str] xs, AV.fn 93 [], AV.val (Value.tuple #[]), AV.val (Value.tuple #[]),
                  AV.val (Value.int IntKind.i64 0), AV.junk, AV.rsl [CK.str] xs,
                  AV.val (Value.int IntKind.i64 (↑xs.length : Int)),
                  AV.val (Value.int IntKind.i64 (IntKind.i64.wrap (i + 1))), AV.junk, AV.junk, AV.junk, AV.junk, AV.junk,
                  AV.junk, AV.junk, AV.junk, AV.junk, AV.junk],
              ob := [], nx := 1000000, ps := [] }))
        False)
      (R (some { av := AV.val (Value.int IntKind.i64 (-1)), obs := [], outs := [] }))) := by kernel_rfl
theorem h135 : G1Ok Try.prog 135 g135 := by
  intro args obs k h
  unfold g135 at h
  split at h
  · rename_i k xs
    obtain ⟨hlen, h⟩ := brd h
    refine ⟨_, ctr_fn ok0 hg135 Try.func135 (by kernel_rfl) (by kernel_rfl) (by kernel_rfl) fun C => ?_, h⟩
    rw [e135]
    exact loopFind okf135 hg135 (fun i => st135 xs i) xs.length (fun i => longT (xs.getD i (edflt ks))) (by omega) (fun N i hi hw next found none => by
      show evP E135 G135 _ (lp135 2) (st135 xs i) (rk135 _ _ 2 _)
      rw [b135, hw, Int.toNat_natCast]
      refine br_dec (fun h2 => br_yes ⟨by omega, h2⟩ (br_intro (fun h3 => ?_) (fun h3 => ?_))) (fun h2 => ?_)
      · show _ = _
        rw [found (by omega) h3]
      · exact next (by omega) h3
      · show _ = _
        rw [none (by omega)])
  · exact h.elim
noncomputable def E92 : Env := E0.of Try.f92
noncomputable def G92 : Gk := gk [(135, g135)]
noncomputable def lp92 (n : Nat) : Code := (loopOf n (codeOf Try.f92)).getD .skip
noncomputable def ct92 (L : Lp) (R : Option Res → Prop) (n : Nat) : Kt := contOf E92 G92 L n (codeOf Try.f92) (endK E92 Try.f92.results.toList R)
noncomputable def rk92 (L : Lp) (R : Option Res → Prop) (n : Nat) (N : St → Prop) : Kt := rk (jof E92 (lp92 n)) N (ct92 L R n)
noncomputable def LOOP92 (L : Lp) (R : Option Res → Prop) (n : Nat) (st : St) : Prop := L (lp92 n) st (ct92 L R n)
theorem hg92 : HG Try.prog G92 := (hg_cons h135 hg_nil)
theorem okf92 : Ok Try.prog E92 := ok0.of Try.f92
theorem e92 (L : Lp) (R : Option Res → Prop) (xs : List (Elem ks)) : (bodyP E0 G92 L Try.f92 [.rsl ks xs, .fn 93 []] [] R) = (
    br (decide (xs.length ≤ 1048576))
      (R
        (some
          { av := AV.val (Value.bool (decide ((fIx xs.length fun i => longT (xs.getD i (edflt [CK.str]))) ≥ 0))), obs := [],
            outs := [] }))
      False) := by kernel_rfl
theorem h92 : G1Ok Try.prog 92 g92 := by
  intro args obs k h
  unfold g92 at h
  split at h
  · rename_i k xs
    obtain ⟨hlen, h⟩ := brd h
    refine ⟨_, ctr_fn ok0 hg92 Try.func92 (by kernel_rfl) (by kernel_rfl) (by kernel_rfl) fun C => ?_, h⟩
    rw [e92]
    refine br_yes hlen ?_
    show _ = _
    rw [fIx_ge]
    rfl
  · exact h.elim
noncomputable def E96 : Env := E0.of Try.f96
noncomputable def G96 : Gk := gk [(65, g65)]
noncomputable def lp96 (n : Nat) : Code := (loopOf n (codeOf Try.f96)).getD .skip
noncomputable def ct96 (L : Lp) (R : Option Res → Prop) (n : Nat) : Kt := contOf E96 G96 L n (codeOf Try.f96) (endK E96 Try.f96.results.toList R)
noncomputable def rk96 (L : Lp) (R : Option Res → Prop) (n : Nat) (N : St → Prop) : Kt := rk (jof E96 (lp96 n)) N (ct96 L R n)
noncomputable def LOOP96 (L : Lp) (R : Option Res → Prop) (n : Nat) (st : St) : Prop := L (lp96 n) st (ct96 L R n)
theorem hg96 : HG Try.prog G96 := (hg_cons h65 hg_nil)
theorem okf96 : Ok Try.prog E96 := ok0.of Try.f96
theorem e96 (L : Lp) (R : Option Res → Prop) (a b : List (Elem ks)) (c : List (Elem kl)) (s i : Int) : (bodyP E0 G96 L Try.f96 [.agg [.rsl ks a, .rsl ks b, .rsl kl c], .val (.int .i64 s), .val (.int .i64 i)] [] R) = (
    br (decide (0 ≤ s) && decide (s ≤ 1))
      (R
        (some
          { av := AV.val (Value.bool (decide (0 ≤ i) && decide (i ≤ IntKind.i64.wrap ((↑a.length : Int) - 1)))), obs := [],
            outs := [] }))
      (R (some { av := AV.val (Value.bool false), obs := [], outs := [] }))) := by kernel_rfl
theorem h96 : G1Ok Try.prog 96 g96 := by
  intro args obs k h
  unfold g96 at h
  split at h
  · rename_i k a b c s i
    obtain ⟨hlen, h⟩ := brd h
    refine ⟨_, ctr_fn ok0 hg96 Try.func96 (by kernel_rfl) (by kernel_rfl) (by kernel_rfl) fun C => ?_, h⟩
    rw [e96]
    rw [wrap_id (n := (a.length : Int) - 1) (by omega) (by omega)]
    refine br_intro (fun h1 => ?_) (fun h1 => ?_) <;> show _ = _ <;> unfold secOk <;> rw [h1]
    · have : decide (i ≤ (a.length : Int) - 1) = decide (i < (a.length : Int)) := by
        apply decide_eq_decide.2
        omega
      rw [this]
      rfl
    · rfl
  · exact h.elim
noncomputable def E95 : Env := E0.of Try.f95
noncomputable def G95 : Gk := gk [(93, g93), (96, g96)]
noncomputable def lp95 (n : Nat) : Code := (loopOf n (codeOf Try.f95)).getD .skip
noncomputable def ct95 (L : Lp) (R : Option Res → Prop) (n : Nat) : Kt := contOf E95 G95 L n (codeOf Try.f95) (endK E95 Try.f95.results.toList R)
noncomputable def rk95 (L : Lp) (R : Option Res → Prop) (n : Nat) (N : St → Prop) : Kt := rk (jof E95 (lp95 n)) N (ct95 L R n)
noncomputable def LOOP95 (L : Lp) (R : Option Res → Prop) (n : Nat) (st : St) : Prop := L (lp95 n) st (ct95 L R n)
theorem hg95 : HG Try.prog G95 := (hg_cons h93 (hg_cons h96 hg_nil))
theorem okf95 : Ok Try.prog E95 := ok0.of Try.f95
theorem e95 (L : Lp) (R : Option Res → Prop) (a b : List (Elem ks)) (c : List (Elem kl)) (s i : Int) (t : ByteArray) : (bodyP E0 G95 L Try.f95 [.agg [.val (.int .i64 s), .val (.int .i64 i), .val (.string t)], .rpt [.rsl ks a, .rsl ks b, .rsl kl c]] [] R) = (
    br (decide (a.length ≤ 1048576))
      (br (!secOk a.length s i) (R (some { av := AV.val (Value.bool true), obs := [], outs := [] }))
        (R (some { av := AV.val (Value.bool (decide ((↑t.size : Int) > 420))), obs := [], outs := [] })))
      False) := by kernel_rfl
theorem h95 : G1Ok Try.prog 95 g95 := by
  intro args obs k h
  unfold g95 at h
  split at h
  · rename_i k s i t a b c
    obtain ⟨hlen, h⟩ := brd h
    refine ⟨_, ctr_fn ok0 hg95 Try.func95 (by kernel_rfl) (by kernel_rfl) (by kernel_rfl) fun C => ?_, h⟩
    rw [e95]
    refine br_yes hlen (br_not (fun h1 => ?_) (fun h1 => ?_)) <;> show _ = _ <;> unfold badL <;> rw [h1] <;> rfl
  · exact h.elim
noncomputable def E136 : Env := E0.of Try.f136
noncomputable def G136 : Gk := gk [(95, g95)]
noncomputable def lp136 (n : Nat) : Code := (loopOf n (codeOf Try.f136)).getD .skip
noncomputable def ct136 (L : Lp) (R : Option Res → Prop) (n : Nat) : Kt := contOf E136 G136 L n (codeOf Try.f136) (endK E136 Try.f136.results.toList R)
noncomputable def rk136 (L : Lp) (R : Option Res → Prop) (n : Nat) (N : St → Prop) : Kt := rk (jof E136 (lp136 n)) N (ct136 L R n)
noncomputable def LOOP136 (L : Lp) (R : Option Res → Prop) (n : Nat) (st : St) : Prop := L (lp136 n) st (ct136 L R n)
theorem hg136 : HG Try.prog G136 := (hg_cons h95 hg_nil)
theorem okf136 : Ok Try.prog E136 := ok0.of Try.f136
theorem e136 (L : Lp) (R : Option Res → Prop) (a b : List (Elem ks)) (c xs : List (Elem kl)) : (bodyP E0 G136 L Try.f136 [.rsl kl xs, .fn 95 [.rpt [.rsl ks a, .rsl ks b, .rsl kl c]]] [] R) = (
    LOOP136 L R 2
      {
        tm :=
          [AV.rsl [CK.int IntKind.i64, CK.int IntKind.i64, CK.str] xs,
            AV.fn 95
              [AV.rpt [AV.rsl [CK.str] a, AV.rsl [CK.str] b, AV.rsl [CK.int IntKind.i64, CK.int IntKind.i64, CK.str] c]],
            AV.val (Value.tuple #[]), AV.val (Value.tuple #[]), AV.val (Value.int IntKind.i64 0), AV.junk,
            AV.rsl [CK.int IntKind.i64, CK.int IntKind.i64, CK.str] xs, AV.val (Value.int IntKind.i64 (↑xs.length : Int)),
            AV.val (Value.int IntKind.i64 0), AV.junk, AV.junk, AV.junk, AV.junk, AV.junk, AV.junk, AV.junk, AV.junk,
            AV.junk, AV.junk],
        ob := [], nx := 1000000, ps := [] }) := by kernel_rfl
def st136 (a b : List (Elem ks)) (c xs : List (Elem kl)) (i : Int) : St :=
  ⟨[AV.rsl [CK.int IntKind.i64, CK.int IntKind.i64, CK.str] xs, AV.fn 95 [AV.rpt [AV.rsl [CK.str] a, AV.rsl [CK.str] b, AV.rsl [CK.int IntKind.i64, CK.int IntKind.i64, CK.str] c]], AV.val (Value.tuple #[]), AV.val (Value.tuple #[]), AV.val (Value.int IntKind.i64 0), AV.junk, AV.rsl [CK.int IntKind.i64, CK.int IntKind.i64, CK.str] xs, AV.val (Value.int IntKind.i64 (↑xs.length : Int)), .val (.int .i64 i), AV.junk, AV.junk, AV.junk, AV.junk, AV.junk, AV.junk, AV.junk, AV.junk, AV.junk, AV.junk],
    [], 1000000, []⟩
theorem b136 (L : Lp) (R : Option Res → Prop) (N : St → Prop) (a b : List (Elem ks)) (c xs : List (Elem kl)) (i : Int) : (evP E136 G136 L (lp136 2) (st136 a b c xs i) (rk136 L R 2 N)) = (
    br (decide (i < (↑xs.length : Int)))
      (br (decide (0 ≤ i ∧ i < (↑xs.length : Int)))
        (br (decide (a.length ≤ 1048576))
          (br (badL a.length (xs.getD i.toNat (edflt [CK.int IntKind.i64, CK.int IntKind.i64, CK.str])))
            (R (some { av := AV.val (Value.int IntKind.i64 i), obs := [], outs := [] }))
            (N
              {
                tm :=
                  [AV.rsl [CK.int IntKind.i64, CK.int IntKind.i64, CK.str] xs,
                    AV.fn 95
                      [AV.rpt
                          [AV.rsl [CK.str] a, AV.rsl [CK.str] b,
                            AV.rsl [CK.int IntKind.i64, CK.int IntKind.i64, CK.str] c]],
                    AV.val (Value.tuple #[]), AV.val (Value.tuple #[]), AV.val (Value.int IntKind.i64 0), AV.junk,
                    AV.rsl [CK.int IntKind.i64, CK.int IntKind.i64, CK.str] xs,
                    AV.val (Value.int IntKind.i64 (↑xs.length : Int)),
                    AV.val (Value.int IntKind.i64 (IntKind.i64.wrap (i + 1))), AV.junk, AV.junk, AV.junk, AV.junk, AV.junk,
                    AV.junk, AV.junk, AV.junk, AV.junk, AV.junk],
                ob := [], nx := 1000000, ps := [] }))
          False)
        False)
      (R (some { av := AV.val (Value.int IntKind.i64 (-1)), obs := [], outs := [] }))) := by kernel_rfl
theorem h136 : G1Ok Try.prog 136 g136 := by
  intro args obs k h
  unfold g136 at h
  split at h
  · rename_i k xs a b c
    obtain ⟨ha, hlen, h⟩ := brb2 h
    rw [decide_eq_true_eq] at hlen
    refine ⟨_, ctr_fn ok0 hg136 Try.func136 (by kernel_rfl) (by kernel_rfl) (by kernel_rfl) fun C => ?_, h⟩
    rw [e136]
    exact loopFind okf136 hg136 (fun i => st136 a b c xs i) xs.length (fun i => badL a.length (xs.getD i (edflt kl))) (by omega) (fun N i hi hw next found none => by
      show evP E136 G136 _ (lp136 2) (st136 a b c xs i) (rk136 _ _ 2 _)
      rw [b136, hw, Int.toNat_natCast]
      refine br_dec (fun h2 => br_yes ⟨by omega, h2⟩ (br_t ha (br_intro (fun h3 => ?_) (fun h3 => ?_)))) (fun h2 => ?_)
      · show _ = _
        rw [found (by omega) h3]
      · exact next (by omega) h3
      · show _ = _
        rw [none (by omega)])
  · exact h.elim
noncomputable def E94 : Env := E0.of Try.f94
noncomputable def G94 : Gk := gk [(136, g136)]
noncomputable def lp94 (n : Nat) : Code := (loopOf n (codeOf Try.f94)).getD .skip
noncomputable def ct94 (L : Lp) (R : Option Res → Prop) (n : Nat) : Kt := contOf E94 G94 L n (codeOf Try.f94) (endK E94 Try.f94.results.toList R)
noncomputable def rk94 (L : Lp) (R : Option Res → Prop) (n : Nat) (N : St → Prop) : Kt := rk (jof E94 (lp94 n)) N (ct94 L R n)
noncomputable def LOOP94 (L : Lp) (R : Option Res → Prop) (n : Nat) (st : St) : Prop := L (lp94 n) st (ct94 L R n)
theorem hg94 : HG Try.prog G94 := (hg_cons h136 hg_nil)
theorem okf94 : Ok Try.prog E94 := ok0.of Try.f94
theorem e94 (L : Lp) (R : Option Res → Prop) (a b : List (Elem ks)) (c xs : List (Elem kl)) : (bodyP E0 G94 L Try.f94 [.rsl kl xs, .fn 95 [.rpt [.rsl ks a, .rsl ks b, .rsl kl c]]] [] R) = (
    br (decide (a.length ≤ 1048576) && decide (xs.length ≤ 1048576))
      (R
        (some
          {
            av :=
              AV.val
                (Value.bool
                  (decide
                    ((fIx xs.length fun i =>
                        badL a.length (xs.getD i (edflt [CK.int IntKind.i64, CK.int IntKind.i64, CK.str]))) ≥
                      0))),
            obs := [], outs := [] }))
      False) := by kernel_rfl
theorem h94 : G1Ok Try.prog 94 g94 := by
  intro args obs k h
  unfold g94 at h
  split at h
  · rename_i k xs a b c
    obtain ⟨hp, h⟩ := br_and h
    refine ⟨_, ctr_fn ok0 hg94 Try.func94 (by kernel_rfl) (by kernel_rfl) (by kernel_rfl) fun C => ?_, h⟩
    rw [e94]
    refine br_t hp ?_
    show _ = _
    rw [fIx_ge]
    rfl
  · exact h.elim
noncomputable def E45 : Env := E0.of Try.f45
noncomputable def G45 : Gk := gk [(65, g65), (92, g92), (94, g94)]
noncomputable def lp45 (n : Nat) : Code := (loopOf n (codeOf Try.f45)).getD .skip
noncomputable def ct45 (L : Lp) (R : Option Res → Prop) (n : Nat) : Kt := contOf E45 G45 L n (codeOf Try.f45) (endK E45 Try.f45.results.toList R)
noncomputable def rk45 (L : Lp) (R : Option Res → Prop) (n : Nat) (N : St → Prop) : Kt := rk (jof E45 (lp45 n)) N (ct45 L R n)
noncomputable def LOOP45 (L : Lp) (R : Option Res → Prop) (n : Nat) (st : St) : Prop := L (lp45 n) st (ct45 L R n)
theorem hg45 : HG Try.prog G45 := (hg_cons h65 (hg_cons h92 (hg_cons h94 hg_nil)))
theorem okf45 : Ok Try.prog E45 := ok0.of Try.f45
theorem e45 (L : Lp) (R : Option Res → Prop) (a b : List (Elem ks)) (c : List (Elem kl)) : (bodyP E0 G45 L Try.f45 [.agg [.rsl ks a, .rsl ks b, .rsl kl c]] [] R) = (
    br (!(decide (1 ≤ (↑a.length : Int)) && decide ((↑a.length : Int) ≤ 120)))
      (R (some { av := AV.val (Value.bool false), obs := [], outs := [] }))
      (br ((↑b.length : Int) != (↑a.length : Int)) (R (some { av := AV.val (Value.bool false), obs := [], outs := [] }))
        (br (decide (a.length ≤ 1048576))
          (br (anyLong a) (R (some { av := AV.val (Value.bool false), obs := [], outs := [] }))
            (br (decide (b.length ≤ 1048576))
              (br (anyLong b) (R (some { av := AV.val (Value.bool false), obs := [], outs := [] }))
                (br (decide ((↑c.length : Int) ≤ 600))
                  (br (decide (a.length ≤ 1048576) && decide (c.length ≤ 1048576))
                    (R (some { av := AV.val (Value.bool !anyBad a.length c), obs := [], outs := [] })) False)
                  (R (some { av := AV.val (Value.bool false), obs := [], outs := [] }))))
              False))
          False))) := by kernel_rfl
theorem h45 : G1Ok Try.prog 45 g45 := by
  intro args obs k h
  unfold g45 at h
  split at h
  · rename_i k a b c
    unfold smD at h
    obtain ⟨hp, hc, h⟩ := brb2 h
    rw [Bool.and_eq_true] at hp
    refine ⟨_, ctr_fn ok0 hg45 Try.func45 (by kernel_rfl) (by kernel_rfl) (by kernel_rfl) fun C => ?_, h⟩
    rw [e45]
    refine br_not (fun h1 => ?_) (fun h1 => br_intro (fun h2 => ?_) (fun h2 => br_t hp.1 (br_intro (fun h3 => ?_) (fun h3 => br_t hp.2 (br_intro (fun h4 => ?_) (fun h4 => br_dec (fun h5 => br_t ?_ ?_) (fun h5 => ?_)))))))
    · show _ = _
      simp [okD]
      simp at h1
      intro h6 h7
      omega
    · show _ = _
      have : ¬ b.length = a.length := fun e => by rw [e] at h2; simp at h2
      simp [okD, this]
    · show _ = _
      simp [okD, h3]
    · show _ = _
      simp [okD, h4]
    · rw [hp.1, hc]
      rfl
    · show _ = _
      have e1 : b.length = a.length := by simp at h2; omega
      simp at h1
      have e2 : 1 ≤ a.length := by omega
      have e3 : a.length ≤ 120 := by omega
      have e4 : c.length ≤ 600 := by omega
      simp [okD, h3, h4, e1, e2, e3, e4]
    · show _ = _
      have e4 : ¬ c.length ≤ 600 := by omega
      simp [okD, e4]
  · exact h.elim
noncomputable def E91 : Env := E0.of Try.f91
noncomputable def G91 : Gk := gk []
noncomputable def lp91 (n : Nat) : Code := (loopOf n (codeOf Try.f91)).getD .skip
noncomputable def ct91 (L : Lp) (R : Option Res → Prop) (n : Nat) : Kt := contOf E91 G91 L n (codeOf Try.f91) (endK E91 Try.f91.results.toList R)
noncomputable def rk91 (L : Lp) (R : Option Res → Prop) (n : Nat) (N : St → Prop) : Kt := rk (jof E91 (lp91 n)) N (ct91 L R n)
noncomputable def LOOP91 (L : Lp) (R : Option Res → Prop) (n : Nat) (st : St) : Prop := L (lp91 n) st (ct91 L R n)
theorem hg91 : HG Try.prog G91 := hg_nil
theorem okf91 : Ok Try.prog E91 := ok0.of Try.f91
theorem e91 (L : Lp) (R : Option Res → Prop) (a b : List (Elem ks)) (c : List (Elem kl)) (s i : Int) (t : ByteArray) : (bodyP E0 G91 L Try.f91 [.agg [.rsl ks a, .rsl ks b, .rsl kl c], .val (.int .i64 s), .val (.int .i64 i), .val (.string t)] [] R) = (
    br (decide (s ≥ 0))
      (br (decide (s ≤ 1))
        (br (decide (i ≥ 0))
          (br (decide (i < (↑a.length : Int)))
            (R (some { av := AV.val (Value.bool (decide ((↑t.size : Int) ≤ 420))), obs := [], outs := [] }))
            (R (some { av := AV.val (Value.bool false), obs := [], outs := [] })))
          (R (some { av := AV.val (Value.bool false), obs := [], outs := [] })))
        (R (some { av := AV.val (Value.bool false), obs := [], outs := [] })))
      (R (some { av := AV.val (Value.bool false), obs := [], outs := [] }))) := by kernel_rfl
theorem h91 : G1Ok Try.prog 91 g91 := by
  intro args obs k h
  unfold g91 at h
  split at h
  · rename_i k a b c s i t
    refine ⟨_, ctr_fn ok0 hg91 Try.func91 (by kernel_rfl) (by kernel_rfl) (by kernel_rfl) fun C => ?_, h⟩
    rw [e91]
    repeat' (first | refine br_dec (fun h => ?_) (fun h => ?_))
    all_goals show _ = _
    all_goals simp [secOk]
    all_goals omega
  · exact h.elim
noncomputable def E44 : Env := E0.of Try.f44
noncomputable def G44 : Gk := gk [(91, g91)]
noncomputable def lp44 (n : Nat) : Code := (loopOf n (codeOf Try.f44)).getD .skip
noncomputable def ct44 (L : Lp) (R : Option Res → Prop) (n : Nat) : Kt := contOf E44 G44 L n (codeOf Try.f44) (endK E44 Try.f44.results.toList R)
noncomputable def rk44 (L : Lp) (R : Option Res → Prop) (n : Nat) (N : St → Prop) : Kt := rk (jof E44 (lp44 n)) N (ct44 L R n)
noncomputable def LOOP44 (L : Lp) (R : Option Res → Prop) (n : Nat) (st : St) : Prop := L (lp44 n) st (ct44 L R n)
theorem hg44 : HG Try.prog G44 := (hg_cons h91 hg_nil)
theorem okf44 : Ok Try.prog E44 := ok0.of Try.f44
theorem e44 (L : Lp) (R : Option Res → Prop) (a b : List (Elem ks)) (c : List (Elem kl)) : (bodyP E0 G44 L Try.f44 [.agg [.rsl ks a, .rsl ks b, .rsl kl c]] [] R) = (
    br (decide ((↑a.length : Int) < 1)) (R (some { av := AV.val (Value.bool false), obs := [], outs := [] }))
      (br (decide ((↑a.length : Int) > 120)) (R (some { av := AV.val (Value.bool false), obs := [], outs := [] }))
        (br ((↑b.length : Int) != (↑a.length : Int)) (R (some { av := AV.val (Value.bool false), obs := [], outs := [] }))
          (br (decide ((↑c.length : Int) > 600)) (R (some { av := AV.val (Value.bool false), obs := [], outs := [] }))
            (LOOP44 L R 5
              {
                tm :=
                  [AV.agg [AV.rsl [CK.str] a, AV.rsl [CK.str] b, AV.rsl [CK.int IntKind.i64, CK.int IntKind.i64, CK.str] c],
                    AV.ptr 0 0, AV.val (Value.bool false), AV.val (Value.int IntKind.i64 (↑a.length : Int)),
                    AV.val (Value.int IntKind.i64 0), AV.val (Value.tuple #[]), AV.ptr 0 0, AV.ptr 0 0, AV.rsl [CK.str] a,
                    AV.val (Value.int IntKind.i64 (↑a.length : Int)), AV.val (Value.int IntKind.i64 (↑a.length : Int)),
                    AV.val (Value.bool (decide ((↑a.length : Int) < 1))), AV.val (Value.bool false),
                    AV.val (Value.int IntKind.i64 (↑a.length : Int)),
                    AV.val (Value.bool (decide ((↑a.length : Int) > 120))),
                    AV.val (Value.bool (decide ((↑a.length : Int) > 120))), AV.val (Value.bool false), AV.ptr 0 0,
                    AV.ptr 0 1, AV.rsl [CK.str] b, AV.val (Value.int IntKind.i64 (↑b.length : Int)),
                    AV.val (Value.int IntKind.i64 (↑a.length : Int)),
                    AV.val (Value.bool ((↑b.length : Int) != (↑a.length : Int))),
                    AV.val (Value.bool ((↑b.length : Int) != (↑a.length : Int))), AV.val (Value.bool false), AV.ptr 0 2,
                    AV.rsl [CK.int IntKind.i64, CK.int IntKind.i64, CK.str] c,
                    AV.val (Value.int IntKind.i64 (↑c.length : Int)),
                    AV.val (Value.bool (decide ((↑c.length : Int) > 600))),
                    AV.val (Value.bool (decide ((↑c.length : Int) > 600))), AV.junk, AV.junk, AV.junk, AV.junk, AV.junk,
                    AV.junk, AV.junk, AV.junk, AV.junk, AV.junk, AV.junk, AV.junk, AV.junk, AV.junk, AV.junk, AV.junk,
                    AV.junk, AV.junk, AV.junk, AV.junk, AV.junk, AV.junk, AV.junk, AV.val (Value.tuple #[]),
                    AV.val (Value.tuple #[]), AV.val (Value.tuple #[]), AV.val (Value.tuple #[]), AV.val (Value.tuple #[]),
                    AV.val (Value.tuple #[]), AV.val (Value.tuple #[]), AV.val (Value.tuple #[]), AV.val (Value.tuple #[]),
                    AV.val (Value.tuple #[]), AV.val (Value.tuple #[]), AV.val (Value.tuple #[]), AV.val (Value.tuple #[]),
                    AV.val (Value.tuple #[]), AV.val (Value.tuple #[]), AV.val (Value.tuple #[]), AV.val (Value.tuple #[]),
                    AV.val (Value.tuple #[]), AV.val (Value.tuple #[]), AV.val (Value.tuple #[]), AV.val (Value.tuple #[]),
                    AV.val (Value.tuple #[]), AV.val (Value.tuple #[]), AV.val (Value.tuple #[]), AV.val (Value.tuple #[]),
                    AV.val (Value.tuple #[]), AV.val (Value.tuple #[]), AV.val (Value.tuple #[])],
                ob :=
                  [(0,
                      AO.box
                        [AV.rsl [CK.str] a, AV.rsl [CK.str] b, AV.rsl [CK.int IntKind.i64, CK.int IntKind.i64, CK.str] c])],
                nx := 1000000, ps := [] }))))) := by kernel_rfl
def st44 (a b : List (Elem ks)) (c : List (Elem kl)) (i : Int) : St :=
  ⟨[AV.agg [AV.rsl [CK.str] a, AV.rsl [CK.str] b, AV.rsl [CK.int IntKind.i64, CK.int IntKind.i64, CK.str] c], AV.ptr 0 0, AV.val (Value.bool false), AV.val (Value.int IntKind.i64 (↑a.length : Int)), .val (.int .i64 i), AV.val (Value.tuple #[]), AV.ptr 0 0, AV.ptr 0 0, AV.rsl [CK.str] a, AV.val (Value.int IntKind.i64 (↑a.length : Int)), AV.val (Value.int IntKind.i64 (↑a.length : Int)), AV.val (Value.bool (decide ((↑a.length : Int) < 1))), AV.val (Value.bool false), AV.val (Value.int IntKind.i64 (↑a.length : Int)), AV.val (Value.bool (decide ((↑a.length : Int) > 120))), AV.val (Value.bool (decide ((↑a.length : Int) > 120))), AV.val (Value.bool false), AV.ptr 0 0, AV.ptr 0 1, AV.rsl [CK.str] b, AV.val (Value.int IntKind.i64 (↑b.length : Int)), AV.val (Value.int IntKind.i64 (↑a.length : Int)), AV.val (Value.bool ((↑b.length : Int) != (↑a.length : Int))), AV.val (Value.bool ((↑b.length : Int) != (↑a.length : Int))), AV.val (Value.bool false), AV.ptr 0 2, AV.rsl [CK.int IntKind.i64, CK.int IntKind.i64, CK.str] c, AV.val (Value.int IntKind.i64 (↑c.length : Int)), AV.val (Value.bool (decide ((↑c.length : Int) > 600))), AV.val (Value.bool (decide ((↑c.length : Int) > 600))), AV.junk, AV.junk, AV.junk, AV.junk, AV.junk, AV.junk, AV.junk, AV.junk, AV.junk, AV.junk, AV.junk, AV.junk, AV.junk, AV.junk, AV.junk, AV.junk, AV.junk, AV.junk, AV.junk, AV.junk, AV.junk, AV.junk, AV.junk, AV.val (Value.tuple #[]), AV.val (Value.tuple #[]), AV.val (Value.tuple #[]), AV.val (Value.tuple #[]), AV.val (Value.tuple #[]), AV.val (Value.tuple #[]), AV.val (Value.tuple #[]), AV.val (Value.tuple #[]), AV.val (Value.tuple #[]), AV.val (Value.tuple #[]), AV.val (Value.tuple #[]), AV.val (Value.tuple #[]), AV.val (Value.tuple #[]), AV.val (Value.tuple #[]), AV.val (Value.tuple #[]), AV.val (Value.tuple #[]), AV.val (Value.tuple #[]), AV.val (Value.tuple #[]), AV.val (Value.tuple #[]), AV.val (Value.tuple #[]), AV.val (Value.tuple #[]), AV.val (Value.tuple #[]), AV.val (Value.tuple #[]), AV.val (Value.tuple #[]), AV.val (Value.tuple #[]), AV.val (Value.tuple #[]), AV.val (Value.tuple #[]), AV.val (Value.tuple #[])],
    [(0, AO.box [AV.rsl [CK.str] a, AV.rsl [CK.str] b, AV.rsl [CK.int IntKind.i64, CK.int IntKind.i64, CK.str] c])], 1000000, []⟩
theorem b44 (L : Lp) (R : Option Res → Prop) (N : St → Prop) (a b : List (Elem ks)) (c : List (Elem kl)) (i : Int) : (evP E44 G44 L (lp44 5) (st44 a b c i) (rk44 L R 5 N)) = (
    br (decide (i < (↑a.length : Int)))
      (br (decide (0 ≤ i ∧ i < (↑a.length : Int)))
        (br (decide ((↑(ByteArray.size (a.getD i.toNat (edflt [CK.str])).fst) : Int) > 420))
          (R (some { av := AV.val (Value.bool false), obs := [], outs := [] }))
          (br (decide (0 ≤ i ∧ i < (↑b.length : Int)))
            (br (decide ((↑(ByteArray.size (b.getD i.toNat (edflt [CK.str])).fst) : Int) > 420))
              (R (some { av := AV.val (Value.bool false), obs := [], outs := [] }))
              (N
                {
                  tm :=
                    [AV.agg
                        [AV.rsl [CK.str] a, AV.rsl [CK.str] b, AV.rsl [CK.int IntKind.i64, CK.int IntKind.i64, CK.str] c],
                      AV.ptr 0 0, AV.val (Value.bool false), AV.val (Value.int IntKind.i64 (↑a.length : Int)),
                      AV.val (Value.int IntKind.i64 (IntKind.i64.wrap (i + 1))), AV.val (Value.tuple #[]), AV.ptr 0 0,
                      AV.ptr 0 0, AV.rsl [CK.str] a, AV.val (Value.int IntKind.i64 (↑a.length : Int)),
                      AV.val (Value.int IntKind.i64 (↑a.length : Int)),
                      AV.val (Value.bool (decide ((↑a.length : Int) < 1))), AV.val (Value.bool false),
                      AV.val (Value.int IntKind.i64 (↑a.length : Int)),
                      AV.val (Value.bool (decide ((↑a.length : Int) > 120))),
                      AV.val (Value.bool (decide ((↑a.length : Int) > 120))), AV.val (Value.bool false), AV.ptr 0 0,
                      AV.ptr 0 1, AV.rsl [CK.str] b, AV.val (Value.int IntKind.i64 (↑b.length : Int)),
                      AV.val (Value.int IntKind.i64 (↑a.length : Int)),
                      AV.val (Value.bool ((↑b.length : Int) != (↑a.length : Int))),
                      AV.val (Value.bool ((↑b.length : Int) != (↑a.length : Int))), AV.val (Value.bool false), AV.ptr 0 2,
                      AV.rsl [CK.int IntKind.i64, CK.int IntKind.i64, CK.str] c,
                      AV.val (Value.int IntKind.i64 (↑c.length : Int)),
                      AV.val (Value.bool (decide ((↑c.length : Int) > 600))),
                      AV.val (Value.bool (decide ((↑c.length : Int) > 600))), AV.junk, AV.junk, AV.junk, AV.junk, AV.junk,
                      AV.junk, AV.junk, AV.junk, AV.junk, AV.junk, AV.junk, AV.junk, AV.junk, AV.junk, AV.junk, AV.junk,
                      AV.junk, AV.junk, AV.junk, AV.junk, AV.junk, AV.junk, AV.junk, AV.val (Value.tuple #[]),
                      AV.val (Value.tuple #[]), AV.val (Value.tuple #[]), AV.val (Value.tuple #[]),
                      AV.val (Value.tuple #[]), AV.val (Value.tuple #[]), AV.val (Value.tuple #[]),
                      AV.val (Value.tuple #[]), AV.val (Value.tuple #[]), AV.val (Value.tuple #[]),
                      AV.val (Value.tuple #[]), AV.val (Value.tuple #[]), AV.val (Value.tuple #[]),
                      AV.val (Value.tuple #[]), AV.val (Value.tuple #[]), AV.val (Value.tuple #[]),
                      AV.val (Value.tuple #[]), AV.val (Value.tuple #[]), AV.val (Value.tuple #[]),
                      AV.val (Value.tuple #[]), AV.val (Value.tuple #[]), AV.val (Value.tuple #[]),
                      AV.val (Value.tuple #[]), AV.val (Value.tuple #[]), AV.val (Value.tuple #[]),
                      AV.val (Value.tuple #[]), AV.val (Value.tuple #[]), AV.val (Value.tuple #[])],
                  ob :=
                    [(0,
                        AO.box
                          [AV.rsl [CK.str] a, AV.rsl [CK.str] b,
                            AV.rsl [CK.int IntKind.i64, CK.int IntKind.i64, CK.str] c])],
                  nx := 1000000, ps := [] }))
            False))
        False)
      (LOOP44 L R 10
        {
          tm :=
            [AV.agg [AV.rsl [CK.str] a, AV.rsl [CK.str] b, AV.rsl [CK.int IntKind.i64, CK.int IntKind.i64, CK.str] c],
              AV.ptr 0 0, AV.val (Value.bool false), AV.val (Value.int IntKind.i64 (↑a.length : Int)),
              AV.val (Value.int IntKind.i64 i), AV.val (Value.int IntKind.i64 0), AV.ptr 0 0, AV.ptr 0 0, AV.rsl [CK.str] a,
              AV.val (Value.int IntKind.i64 (↑a.length : Int)), AV.val (Value.int IntKind.i64 (↑a.length : Int)),
              AV.val (Value.bool (decide ((↑a.length : Int) < 1))), AV.val (Value.bool false),
              AV.val (Value.int IntKind.i64 (↑a.length : Int)), AV.val (Value.bool (decide ((↑a.length : Int) > 120))),
              AV.val (Value.bool (decide ((↑a.length : Int) > 120))), AV.val (Value.bool false), AV.ptr 0 0, AV.ptr 0 1,
              AV.rsl [CK.str] b, AV.val (Value.int IntKind.i64 (↑b.length : Int)),
              AV.val (Value.int IntKind.i64 (↑a.length : Int)),
              AV.val (Value.bool ((↑b.length : Int) != (↑a.length : Int))),
              AV.val (Value.bool ((↑b.length : Int) != (↑a.length : Int))), AV.val (Value.bool false), AV.ptr 0 2,
              AV.rsl [CK.int IntKind.i64, CK.int IntKind.i64, CK.str] c, AV.val (Value.int IntKind.i64 (↑c.length : Int)),
              AV.val (Value.bool (decide ((↑c.length : Int) > 600))),
              AV.val (Value.bool (decide ((↑c.length : Int) > 600))), AV.val (Value.int IntKind.i64 i),
              AV.val (Value.int IntKind.i64 (↑a.length : Int)), AV.val (Value.bool (decide (i < (↑a.length : Int)))),
              AV.junk, AV.junk, AV.junk, AV.junk, AV.junk, AV.junk, AV.junk, AV.junk, AV.junk, AV.junk, AV.junk, AV.junk,
              AV.junk, AV.junk, AV.junk, AV.junk, AV.junk, AV.junk, AV.junk, AV.junk, AV.junk, AV.junk, AV.junk, AV.junk,
              AV.junk, AV.junk, AV.junk, AV.junk, AV.junk, AV.junk, AV.junk, AV.junk, AV.junk, AV.junk, AV.junk, AV.junk,
              AV.junk, AV.junk, AV.junk, AV.junk, AV.junk, AV.junk, AV.junk, AV.junk, AV.junk, AV.junk, AV.junk, AV.junk],
          ob :=
            [(0, AO.box [AV.rsl [CK.str] a, AV.rsl [CK.str] b, AV.rsl [CK.int IntKind.i64, CK.int IntKind.i64, CK.str] c])],
          nx := 1000000, ps := [] })) := by kernel_rfl
def st44b (a b : List (Elem ks)) (c : List (Elem kl)) (i j : Int) : St :=
  ⟨[AV.agg [AV.rsl [CK.str] a, AV.rsl [CK.str] b, AV.rsl [CK.int IntKind.i64, CK.int IntKind.i64, CK.str] c], AV.ptr 0 0, AV.val (Value.bool false), AV.val (Value.int IntKind.i64 (↑a.length : Int)), AV.val (Value.int IntKind.i64 i), .val (.int .i64 j), AV.ptr 0 0, AV.ptr 0 0, AV.rsl [CK.str] a, AV.val (Value.int IntKind.i64 (↑a.length : Int)), AV.val (Value.int IntKind.i64 (↑a.length : Int)), AV.val (Value.bool (decide ((↑a.length : Int) < 1))), AV.val (Value.bool false), AV.val (Value.int IntKind.i64 (↑a.length : Int)), AV.val (Value.bool (decide ((↑a.length : Int) > 120))), AV.val (Value.bool (decide ((↑a.length : Int) > 120))), AV.val (Value.bool false), AV.ptr 0 0, AV.ptr 0 1, AV.rsl [CK.str] b, AV.val (Value.int IntKind.i64 (↑b.length : Int)), AV.val (Value.int IntKind.i64 (↑a.length : Int)), AV.val (Value.bool ((↑b.length : Int) != (↑a.length : Int))), AV.val (Value.bool ((↑b.length : Int) != (↑a.length : Int))), AV.val (Value.bool false), AV.ptr 0 2, AV.rsl [CK.int IntKind.i64, CK.int IntKind.i64, CK.str] c, AV.val (Value.int IntKind.i64 (↑c.length : Int)), AV.val (Value.bool (decide ((↑c.length : Int) > 600))), AV.val (Value.bool (decide ((↑c.length : Int) > 600))), AV.val (Value.int IntKind.i64 i), AV.val (Value.int IntKind.i64 (↑a.length : Int)), AV.val (Value.bool (decide (i < (↑a.length : Int)))), AV.junk, AV.junk, AV.junk, AV.junk, AV.junk, AV.junk, AV.junk, AV.junk, AV.junk, AV.junk, AV.junk, AV.junk, AV.junk, AV.junk, AV.junk, AV.junk, AV.junk, AV.junk, AV.junk, AV.junk, AV.junk, AV.junk, AV.junk, AV.junk, AV.junk, AV.junk, AV.junk, AV.junk, AV.junk, AV.junk, AV.junk, AV.junk, AV.junk, AV.junk, AV.junk, AV.junk, AV.junk, AV.junk, AV.junk, AV.junk, AV.junk, AV.junk, AV.junk, AV.junk, AV.junk, AV.junk, AV.junk, AV.junk],
    [(0, AO.box [AV.rsl [CK.str] a, AV.rsl [CK.str] b, AV.rsl [CK.int IntKind.i64, CK.int IntKind.i64, CK.str] c])], 1000000, []⟩
theorem b44b (L : Lp) (R : Option Res → Prop) (N : St → Prop) (a b : List (Elem ks)) (c : List (Elem kl)) (i j : Int) : (evP E44 G44 L (lp44 10) (st44b a b c i j) (rk44 L R 10 N)) = (
    br (decide (j < (↑c.length : Int)))
      (br (decide (0 ≤ j ∧ j < (↑c.length : Int)))
        (br (decide (0 ≤ j ∧ j < (↑c.length : Int)))
          (br (decide (0 ≤ j ∧ j < (↑c.length : Int)))
            (br
              (!(secOk a.length (c.getD j.toNat (edflt [CK.int IntKind.i64, CK.int IntKind.i64, CK.str])).fst
                    (c.getD j.toNat (edflt [CK.int IntKind.i64, CK.int IntKind.i64, CK.str])).snd.fst &&
                  decide
                    ((↑(ByteArray.size
                            (c.getD j.toNat (edflt [CK.int IntKind.i64, CK.int IntKind.i64, CK.str])).snd.snd.fst) :
                        Int) ≤
                      420)))
              (R (some { av := AV.val (Value.bool false), obs := [], outs := [] }))
              (N
                {
                  tm :=
                    [AV.agg
                        [AV.rsl [CK.str] a, AV.rsl [CK.str] b, AV.rsl [CK.int IntKind.i64, CK.int IntKind.i64, CK.str] c],
                      AV.ptr 0 0, AV.val (Value.bool false), AV.val (Value.int IntKind.i64 (↑a.length : Int)),
                      AV.val (Value.int IntKind.i64 i), AV.val (Value.int IntKind.i64 (IntKind.i64.wrap (j + 1))),
                      AV.ptr 0 0, AV.ptr 0 0, AV.rsl [CK.str] a, AV.val (Value.int IntKind.i64 (↑a.length : Int)),
                      AV.val (Value.int IntKind.i64 (↑a.length : Int)),
                      AV.val (Value.bool (decide ((↑a.length : Int) < 1))), AV.val (Value.bool false),
                      AV.val (Value.int IntKind.i64 (↑a.length : Int)),
                      AV.val (Value.bool (decide ((↑a.length : Int) > 120))),
                      AV.val (Value.bool (decide ((↑a.length : Int) > 120))), AV.val (Value.bool false), AV.ptr 0 0,
                      AV.ptr 0 1, AV.rsl [CK.str] b, AV.val (Value.int IntKind.i64 (↑b.length : Int)),
                      AV.val (Value.int IntKind.i64 (↑a.length : Int)),
                      AV.val (Value.bool ((↑b.length : Int) != (↑a.length : Int))),
                      AV.val (Value.bool ((↑b.length : Int) != (↑a.length : Int))), AV.val (Value.bool false), AV.ptr 0 2,
                      AV.rsl [CK.int IntKind.i64, CK.int IntKind.i64, CK.str] c,
                      AV.val (Value.int IntKind.i64 (↑c.length : Int)),
                      AV.val (Value.bool (decide ((↑c.length : Int) > 600))),
                      AV.val (Value.bool (decide ((↑c.length : Int) > 600))), AV.val (Value.int IntKind.i64 i),
                      AV.val (Value.int IntKind.i64 (↑a.length : Int)),
                      AV.val (Value.bool (decide (i < (↑a.length : Int)))), AV.junk, AV.junk, AV.junk, AV.junk, AV.junk,
                      AV.junk, AV.junk, AV.junk, AV.junk, AV.junk, AV.junk, AV.junk, AV.junk, AV.junk, AV.junk, AV.junk,
                      AV.junk, AV.junk, AV.junk, AV.junk, AV.junk, AV.junk, AV.junk, AV.junk, AV.junk, AV.junk, AV.junk,
                      AV.junk, AV.junk, AV.junk, AV.junk, AV.junk, AV.junk, AV.junk, AV.junk, AV.junk, AV.junk, AV.junk,
                      AV.junk, AV.junk, AV.junk, AV.junk, AV.junk, AV.junk, AV.junk, AV.junk, AV.junk, AV.junk],
                  ob :=
                    [(0,
                        AO.box
                          [AV.rsl [CK.str] a, AV.rsl [CK.str] b,
                            AV.rsl [CK.int IntKind.i64, CK.int IntKind.i64, CK.str] c])],
                  nx := 1000000, ps := [] }))
            False)
          False)
        False)
      (R (some { av := AV.val (Value.bool true), obs := [], outs := [] }))) := by kernel_rfl
theorem okD_f1 {a b : List (Elem ks)} {c : List (Elem kl)} (h : anyLong a = true) : okD a b c = false := by simp [okD, h]
theorem okD_f2 {a b : List (Elem ks)} {c : List (Elem kl)} (h : anyLong b = true) : okD a b c = false := by simp [okD, h]
theorem okD_f3 {a b : List (Elem ks)} {c : List (Elem kl)} (h : anyBad a.length c = true) : okD a b c = false := by simp [okD, h]
theorem h44 : G1Ok Try.prog 44 g45 := by
  intro args obs k h
  unfold g45 at h
  split at h
  · rename_i k a b c
    unfold smD at h
    obtain ⟨hp, hc, h⟩ := brb2 h
    rw [decide_eq_true_eq] at hc
    refine ⟨_, ctr_fn ok0 hg44 Try.func44 (by kernel_rfl) (by kernel_rfl) (by kernel_rfl) fun C => ?_, h⟩
    rw [e44]
    refine br_dec (fun h1 => ?_) (fun h1 => br_dec (fun h2 => ?_) (fun h2 => br_intro (fun h3 => ?_) (fun h3 => br_dec (fun h4 => ?_) (fun h4 => ?_))))
    · show _ = _
      have : ¬ 1 ≤ a.length := by omega
      simp [okD, this]
    · show _ = _
      have : ¬ a.length ≤ 120 := by omega
      simp [okD, this]
    · show _ = _
      have : ¬ b.length = a.length := fun e => by rw [e] at h3; simp at h3
      simp [okD, this]
    · show _ = _
      have : ¬ c.length ≤ 600 := by omega
      simp [okD, this]
    have e1 : b.length = a.length := by simp at h3; omega
    have e2 : 1 ≤ a.length := by omega
    have e3 : a.length ≤ 120 := by omega
    have e4 : c.length ≤ 600 := by omega
    refine loopUp okf44 hg44 (α := Unit) (fun i _ => st44 a b c i) a.length (fun i _ => ∀ j, j < i → longT (a.getD j (edflt ks)) = false ∧ longT (b.getD j (edflt ks)) = false) (fun N i _ hi hall next => ?_) () (fun j hj => by omega)
    show evP E44 G44 _ (lp44 5) (st44 a b c i) (rk44 _ _ 5 _)
    rw [b44, wrap_id (n := (i : Int) + 1) (by omega) (by omega), Int.toNat_natCast]
    refine br_dec (fun h5 => br_yes ⟨by omega, h5⟩ (br_intro (fun h6 => ?_) (fun h6 => br_yes ⟨by omega, by omega⟩ (br_intro (fun h7 => ?_) (fun h7 => ?_))))) (fun h5 => ?_)
    · show _ = _
      rw [okD_f1 (anyB_t (i := i) (by omega) h6)]
    · show _ = _
      rw [okD_f2 (anyB_t (i := i) (by omega) h7)]
    · refine next (by omega) () (fun j hj => ?_)
      by_cases e : j < i
      · exact hall j e
      · have : j = i := by omega
        rw [this]
        exact ⟨h6, h7⟩
    · have l1 : anyLong a = false := anyB_f fun j hj => (hall j (by omega)).1
      have l2 : anyLong b = false := anyB_f fun j hj => (hall j (by omega)).2
      have res : ∀ x, anyBad a.length c = x → okD a b c = !x := by
        intro x hx
        simp [okD, l1, l2, hx, e1, e2, e3, e4]
      refine loopAll okf44 hg44 (fun j => st44b a b c i j) c.length (fun j => !badL a.length (c.getD j (edflt kl))) (by omega) (fun N j hj hw next fails done => ?_)
      show evP E44 G44 _ (lp44 10) (st44b a b c i j) (rk44 _ _ 10 _)
      rw [b44b, hw, Int.toNat_natCast]
      have e : (!badL a.length (c.getD j (edflt kl))) = (secOk a.length (c.getD j (edflt kl)).1 (c.getD j (edflt kl)).2.1 && decide (((c.getD j (edflt kl)).2.2.1.size : Int) ≤ 420)) := by
        unfold badL
        rw [Bool.not_or, Bool.not_not]
        congr 1
        rw [Bool.eq_iff_iff]
        simp
      rw [← e]
      refine br_dec (fun h8 => br_yes ⟨by omega, h8⟩ (br_yes ⟨by omega, h8⟩ (br_yes ⟨by omega, h8⟩ (br_not (fun h9 => ?_) (fun h9 => ?_))))) (fun h8 => ?_)
      · show _ = _
        rw [res _ (anyB_t (i := j) (by omega) (by simpa using h9))]
        rfl
      · exact next (by omega) h9
      · show _ = _
        have := done (by omega)
        rw [res false (anyB_f fun q hq => by simpa using allB_at this hq)]
        rfl
  · exact h.elim
noncomputable def E10 : Env := E0.of Try.f10
noncomputable def G10 : Gk := gk [(37, g37), (40, g40), (42, g42), (44, g45), (45, g45)]
noncomputable def lp10 (n : Nat) : Code := (loopOf n (codeOf Try.f10)).getD .skip
noncomputable def ct10 (L : Lp) (R : Option Res → Prop) (n : Nat) : Kt := contOf E10 G10 L n (codeOf Try.f10) (endK E10 Try.f10.results.toList R)
noncomputable def rk10 (L : Lp) (R : Option Res → Prop) (n : Nat) (N : St → Prop) : Kt := rk (jof E10 (lp10 n)) N (ct10 L R n)
noncomputable def LOOP10 (L : Lp) (R : Option Res → Prop) (n : Nat) (st : St) : Prop := L (lp10 n) st (ct10 L R n)
theorem hg10 : HG Try.prog G10 := (hg_cons h37 (hg_cons h40 (hg_cons h42 (hg_cons h44 (hg_cons h45 hg_nil)))))
theorem okf10 : Ok Try.prog E10 := ok0.of Try.f10
theorem e10 (L : Lp) (R : Option Res → Prop) (a b : List (Elem ks)) (c : List (Elem kl)) : (bodyP E0 G10 L Try.f10 [.agg [.rsl ks a, .rsl ks b, .rsl kl c]] [] R) = (
    br (inD a b c && true)
      (br (decide (szR 1048576 (szD a b c) < 0)) (R (some { av := AV.val (Value.bool true), obs := [], outs := [] }))
        (br (smD a b c)
          (br (smD a b c)
            (br (smD a b c)
              (br (smD a b c)
                (br (!okD a b c == okD a b c) (R (some { av := AV.val (Value.bool false), obs := [], outs := [] }))
                  (br (smD a b c)
                    (br (smD a b c)
                      (br (!eqD a b c a b c) (R (some { av := AV.val (Value.bool false), obs := [], outs := [] }))
                        (R (some { av := AV.val (Value.bool true), obs := [], outs := [] })))
                      False)
                    False))
                False)
              False)
            False)
          False))
      False) := by kernel_rfl
theorem c10 (a b : List (Elem ks)) (c : List (Elem kl)) (h : dOk a b c) : Ctr Try.prog 10 [.agg [.rsl ks a, .rsl ks b, .rsl kl c]] [] ⟨.val (.bool true), [], []⟩ := by
  refine ctr_fn ok0 hg10 Try.func10 (by kernel_rfl) (by kernel_rfl) (by kernel_rfl) fun C => ?_
  rw [e10, inD_of h, eqD_self]
  refine br_t rfl (br_dec (fun _ => rfl) (fun h1 => ?_))
  have d1 := smD_of (by omega) h1
  refine br_t d1 (br_t d1 (br_t d1 (br_t d1 (br_intro (fun h => ?_) (fun h => ?_)))))
  · simp at h
  exact br_t d1 (br_t d1 (br_not (fun h => by cases h) (fun h => rfl)))
end Go.Proofs.Ytjhjhkphcemcmaa.Ev
