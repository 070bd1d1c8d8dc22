/- The law of DdtFind. -/
import Derived.Test.YtjhjhkphcemcmaaF14
namespace Go.Proofs.Ytjhjhkphcemcmaa.Ev
open Go
set_option linter.unusedVariables false
set_option linter.unusedSimpArgs false
set_option maxRecDepth 100000
def fndP (a b : List (Elem ks)) (c : List (Elem kl)) (xs : List (Elem k3)) (t : ByteArray) (i : Nat) : Bool :=
  (at3 xs i).1 == sumN t && ((rdBlk a b c (at3 xs i).2.1 (sumN t) 0).2 == 0 && strEq (rdBlk a b c (at3 xs i).2.1 (sumN t) 0).1 t)
def fndR (a b : List (Elem ks)) (c : List (Elem kl)) (xs : List (Elem k3)) (t : ByteArray) : Int := match ddtOk xs with
  | false => 0
  | true => match fd xs.length (fndP a b c xs t) with
    | some i => (at3 xs i).2.1
    | none => 0
def g63 : G1
  | [.agg [.rsl [.str] a, .rsl [.str] b, .rsl [.int .i64, .int .i64, .str] c], .rsl [.int .i64, .int .i64, .int .i64] xs, .val (.string t)], [], k =>
    br (smD a b c && (decide (xs.length ≤ 1048576) && decide (t.size ≤ 4611686018427387904))) (k ⟨.val (.int .i64 (fndR a b c xs t)), [], []⟩) False
  | _, _, _ => False
noncomputable def E63 : Env := E0.of Try.f63
noncomputable def G63 : Gk := gk [(101, g101), (24, g26), (54, g54)]
noncomputable def lp63 (n : Nat) : Code := (loopOf n (codeOf Try.f63)).getD .skip
noncomputable def ct63 (L : Lp) (R : Option Res → Prop) (n : Nat) : Kt := contOf E63 G63 L n (codeOf Try.f63) (endK E63 Try.f63.results.toList R)
noncomputable def rk63 (L : Lp) (R : Option Res → Prop) (n : Nat) (N : St → Prop) : Kt := rk (jof E63 (lp63 n)) N (ct63 L R n)
noncomputable def LOOP63 (L : Lp) (R : Option Res → Prop) (n : Nat) (st : St) : Prop := L (lp63 n) st (ct63 L R n)
theorem hg63 : HG Try.prog G63 := (hg_cons h101 (hg_cons h24 (hg_cons h54 hg_nil)))
theorem okf63 : Ok Try.prog E63 := ok0.of Try.f63
theorem e63 (L : Lp) (R : Option Res → Prop) (a b : List (Elem ks)) (c : List (Elem kl)) (xs : List (Elem k3)) (t : ByteArray) : (bodyP E0 G63 L Try.f63 [.agg [.rsl ks a, .rsl ks b, .rsl kl c], .rsl k3 xs, .val (.string t)] [] R) = (
    br (decide (t.size ≤ 4611686018427387904))
      (LOOP63 L R 3
        {
          tm :=
            [AV.agg [AV.rsl [CK.str] a, AV.rsl [CK.str] b, AV.rsl [CK.int IntKind.i64, CK.int IntKind.i64, CK.str] c],
              AV.rsl [CK.int IntKind.i64, CK.int IntKind.i64, CK.int IntKind.i64] xs, AV.val (Value.string t), AV.ptr 0 0,
              AV.val (Value.tuple #[]), AV.val (Value.tuple #[]), AV.val (Value.int IntKind.i64 0),
              AV.val (Value.int IntKind.i64 (sumN t)), AV.val (Value.int IntKind.i64 0), AV.junk, AV.junk,
              AV.val (Value.string t), AV.val (Value.int IntKind.i64 (sumN t)), AV.junk, AV.junk, AV.junk, AV.junk, AV.junk,
              AV.junk, AV.junk, AV.junk, AV.junk, AV.junk, AV.junk, AV.junk, AV.junk, AV.junk, AV.junk, AV.junk, AV.junk,
              AV.junk, AV.junk, AV.junk, AV.junk, AV.junk, AV.junk, AV.junk, AV.junk, AV.junk, AV.junk, AV.junk, AV.junk,
              AV.junk, AV.junk, AV.junk, AV.junk, AV.junk, AV.junk, AV.junk, AV.junk, AV.junk, AV.junk, AV.junk, AV.junk],
          ob :=
            [(0, AO.box [AV.rsl [CK.str] a, AV.rsl [CK.str] b, AV.rsl [CK.int IntKind.i64, CK.int IntKind.i64, CK.str] c])],
          nx := 1000000, ps := [] })
      False) := by kernel_rfl
def st63 (a b : List (Elem ks)) (c : List (Elem kl)) (xs : List (Elem k3)) (t : ByteArray) (i : Int) : St :=
  ⟨[AV.agg [AV.rsl [CK.str] a, AV.rsl [CK.str] b, AV.rsl [CK.int IntKind.i64, CK.int IntKind.i64, CK.str] c], AV.rsl [CK.int IntKind.i64, CK.int IntKind.i64, CK.int IntKind.i64] xs, AV.val (Value.string t), AV.ptr 0 0, AV.val (Value.tuple #[]), AV.val (Value.tuple #[]), AV.val (Value.int IntKind.i64 0), AV.val (Value.int IntKind.i64 (sumN t)), .val (.int .i64 i), AV.junk, AV.junk, AV.val (Value.string t), AV.val (Value.int IntKind.i64 (sumN t)), AV.junk, AV.junk, AV.junk, AV.junk, AV.junk, AV.junk, AV.junk, AV.junk, AV.junk, AV.junk, AV.junk, AV.junk, AV.junk, AV.junk, AV.junk, AV.junk, AV.junk, AV.junk, AV.junk, AV.junk, AV.junk, AV.junk, AV.junk, AV.junk, AV.junk, AV.junk, AV.junk, AV.junk, AV.junk, AV.junk, AV.junk, AV.junk, AV.junk, AV.junk, AV.junk, AV.junk, AV.junk, AV.junk, AV.junk, AV.junk, AV.junk],
    [(0, AO.box [AV.rsl [CK.str] a, AV.rsl [CK.str] b, AV.rsl [CK.int IntKind.i64, CK.int IntKind.i64, CK.str] c])], 1000000, []⟩
theorem b63 (L : Lp) (R : Option Res → Prop) (N : St → Prop) (a b : List (Elem ks)) (c : List (Elem kl)) (xs : List (Elem k3)) (t : ByteArray) (i : Int) : (evP E63 G63 L (lp63 3) (st63 a b c xs t i) (rk63 L R 3 N)) = (
    br (decide (xs.length ≤ 1048576))
      (br (ddtOk xs)
        (br (decide (i < (↑xs.length : Int)))
          (br (decide (0 ≤ i ∧ i < (↑xs.length : Int)))
            (br ((xs.getD i.toNat (edflt [CK.int IntKind.i64, CK.int IntKind.i64, CK.int IntKind.i64])).fst == sumN t)
              (br (decide (0 ≤ i ∧ i < (↑xs.length : Int)))
                (br (smD a b c)
                  (br
                    ((rdBlk a b c
                          (xs.getD i.toNat (edflt [CK.int IntKind.i64, CK.int IntKind.i64, CK.int IntKind.i64])).snd.fst
                          (sumN t) 0).snd ==
                      0)
                    (br
                      (strEq
                        (rdBlk a b c
                            (xs.getD i.toNat (edflt [CK.int IntKind.i64, CK.int IntKind.i64, CK.int IntKind.i64])).snd.fst
                            (sumN t) 0).fst
                        t)
                      (br (decide (0 ≤ i ∧ i < (↑xs.length : Int)))
                        (R
                          (some
                            {
                              av :=
                                AV.val
                                  (Value.int IntKind.i64
                                    (xs.getD i.toNat
                                          (edflt [CK.int IntKind.i64, CK.int IntKind.i64, CK.int IntKind.i64])).snd.fst),
                              obs := [], outs := [] }))
                        False)
                      (N
                        {
                          tm :=
                            [AV.agg
                                [AV.rsl [CK.str] a, AV.rsl [CK.str] b,
                                  AV.rsl [CK.int IntKind.i64, CK.int IntKind.i64, CK.str] c],
                              AV.rsl [CK.int IntKind.i64, CK.int IntKind.i64, CK.int IntKind.i64] xs,
                              AV.val (Value.string t), AV.ptr 0 0, AV.val (Value.tuple #[]), AV.val (Value.tuple #[]),
                              AV.val (Value.int IntKind.i64 0), AV.val (Value.int IntKind.i64 (sumN t)),
                              AV.val (Value.int IntKind.i64 (IntKind.i64.wrap (i + 1))), AV.junk, AV.junk,
                              AV.val (Value.string t), AV.val (Value.int IntKind.i64 (sumN t)), AV.junk, AV.junk, AV.junk,
                              AV.junk, AV.junk, AV.junk, AV.junk, AV.junk, AV.junk, AV.junk, AV.junk, AV.junk, AV.junk,
                              AV.junk, AV.junk, AV.junk, AV.junk, AV.junk, AV.junk, AV.junk, AV.junk, AV.junk, AV.junk,
                              AV.junk, AV.junk, AV.junk, AV.junk, AV.junk, AV.junk, AV.junk, AV.junk, AV.junk, AV.junk,
                              AV.junk, AV.junk, AV.junk, AV.junk, AV.junk, AV.junk, AV.junk, AV.junk],
                          ob :=
                            [(0,
                                AO.box
                                  [AV.rsl [CK.str] a, AV.rsl [CK.str] b,
                                    AV.rsl [CK.int IntKind.i64, CK.int IntKind.i64, CK.str] c])],
                          nx := 1000000, ps := [] }))
                    (N
                      {
                        tm :=
                          [AV.agg
                              [AV.rsl [CK.str] a, AV.rsl [CK.str] b,
                                AV.rsl [CK.int IntKind.i64, CK.int IntKind.i64, CK.str] c],
                            AV.rsl [CK.int IntKind.i64, CK.int IntKind.i64, CK.int IntKind.i64] xs, AV.val (Value.string t),
                            AV.ptr 0 0, AV.val (Value.tuple #[]), AV.val (Value.tuple #[]),
                            AV.val (Value.int IntKind.i64 0), AV.val (Value.int IntKind.i64 (sumN t)),
                            AV.val (Value.int IntKind.i64 (IntKind.i64.wrap (i + 1))), AV.junk, AV.junk,
                            AV.val (Value.string t), AV.val (Value.int IntKind.i64 (sumN t)), AV.junk, AV.junk, AV.junk,
                            AV.junk, AV.junk, AV.junk, AV.junk, AV.junk, AV.junk, AV.junk, AV.junk, AV.junk, AV.junk,
                            AV.junk, AV.junk, AV.junk, AV.junk, AV.junk, AV.junk, AV.junk, AV.junk, AV.junk, AV.junk,
                            AV.junk, AV.junk, AV.junk, AV.junk, AV.junk, AV.junk, AV.junk, AV.junk, AV.junk, AV.junk,
                            AV.junk, AV.junk, AV.junk, AV.junk, AV.junk, AV.junk, AV.junk, AV.junk],
                        ob :=
                          [(0,
                              AO.box
                                [AV.rsl [CK.str] a, AV.rsl [CK.str] b,
                                  AV.rsl [CK.int IntKind.i64, CK.int IntKind.i64, CK.str] c])],
                        nx := 1000000, ps := [] }))
                  False)
                False)
              (N
                {
                  tm :=
                    [AV.agg
                        [AV.rsl [CK.str] a, AV.rsl [CK.str] b, AV.rsl [CK.int IntKind.i64, CK.int IntKind.i64, CK.str] c],
                      AV.rsl [CK.int IntKind.i64, CK.int IntKind.i64, CK.int IntKind.i64] xs, AV.val (Value.string t),
                      AV.ptr 0 0, AV.val (Value.tuple #[]), AV.val (Value.tuple #[]), AV.val (Value.int IntKind.i64 0),
                      AV.val (Value.int IntKind.i64 (sumN t)), AV.val (Value.int IntKind.i64 (IntKind.i64.wrap (i + 1))),
                      AV.junk, AV.junk, AV.val (Value.string t), AV.val (Value.int IntKind.i64 (sumN t)), AV.junk, AV.junk,
                      AV.junk, AV.junk, AV.junk, AV.junk, AV.junk, AV.junk, AV.junk, AV.junk, AV.junk, AV.junk, AV.junk,
                      AV.junk, AV.junk, AV.junk, AV.junk, AV.junk, AV.junk, AV.junk, AV.junk, AV.junk, AV.junk, AV.junk,
                      AV.junk, AV.junk, AV.junk, AV.junk, AV.junk, AV.junk, AV.junk, AV.junk, AV.junk, AV.junk, AV.junk,
                      AV.junk, AV.junk, AV.junk, AV.junk, AV.junk, AV.junk],
                  ob :=
                    [(0,
                        AO.box
                          [AV.rsl [CK.str] a, AV.rsl [CK.str] b,
                            AV.rsl [CK.int IntKind.i64, CK.int IntKind.i64, CK.str] c])],
                  nx := 1000000, ps := [] }))
            False)
          (R (some { av := AV.val (Value.int IntKind.i64 0), obs := [], outs := [] })))
        (R (some { av := AV.val (Value.int IntKind.i64 0), obs := [], outs := [] })))
      False) := by kernel_rfl
theorem h63 : G1Ok Try.prog 63 g63 := by
  intro args obs k h
  unfold g63 at h
  split at h
  · rename_i k a b c xs t
    obtain ⟨hd, hx, h⟩ := brb2 h
    rw [Bool.and_eq_true] at hx
    have hx1 := of_decide_eq_true hx.1
    refine ⟨_, ctr_fn ok0 hg63 Try.func63 (by kernel_rfl) (by kernel_rfl) (by kernel_rfl) fun C => ?_, h⟩
    rw [e63]
    refine br_t hx.2 ?_
    refine loopFd okf63 hg63 (fun i => st63 a b c xs t i) xs.length (fndP a b c xs t) (by omega) (fun N i hi hw next found none => ?_)
    show evP E63 G63 _ (lp63 3) (st63 a b c xs t i) (rk63 _ _ 3 _)
    rw [b63, hw, Int.toNat_natCast]
    have hp : fndP a b c xs t i = ((xs.getD i (edflt k3)).1 == sumN t && ((rdBlk a b c (xs.getD i (edflt k3)).2.1 (sumN t) 0).2 == 0 && strEq (rdBlk a b c (xs.getD i (edflt k3)).2.1 (sumN t) 0).1 t)) := rfl
    refine br_t hx.1 (br_intro (fun h1 => br_dec (fun h2 => br_yes ⟨by omega, h2⟩ (br_intro (fun h3 => br_yes ⟨by omega, h2⟩ (br_t hd (br_intro (fun h4 => br_intro (fun h5 => br_yes ⟨by omega, h2⟩ ?_) (fun h5 => ?_)) (fun h4 => ?_)))) (fun h3 => ?_))) (fun h2 => ?_)) (fun h1 => ?_))
    · show _ = _
      unfold fndR
      rw [h1, found (by omega) (by rw [hp, h3, h4, h5]; rfl)]
      rfl
    · exact next (by omega) (by rw [hp, h5]; simp)
    · exact next (by omega) (by rw [hp, h4]; simp)
    · exact next (by omega) (by rw [hp, h3]; simp)
    · show _ = _
      unfold fndR
      rw [h1, none (by omega)]
    · show _ = _
      unfold fndR
      rw [h1]
  · exact h.elim
noncomputable def E64 : Env := E0.of Try.f64
noncomputable def G64 : Gk := gk [(119, g101), (26, g26), (55, g54)]
noncomputable def lp64 (n : Nat) : Code := (loopOf n (codeOf Try.f64)).getD .skip
noncomputable def ct64 (L : Lp) (R : Option Res → Prop) (n : Nat) : Kt := contOf E64 G64 L n (codeOf Try.f64) (endK E64 Try.f64.results.toList R)
noncomputable def rk64 (L : Lp) (R : Option Res → Prop) (n : Nat) (N : St → Prop) : Kt := rk (jof E64 (lp64 n)) N (ct64 L R n)
noncomputable def LOOP64 (L : Lp) (R : Option Res → Prop) (n : Nat) (st : St) : Prop := L (lp64 n) st (ct64 L R n)
theorem hg64 : HG Try.prog G64 := (hg_cons h119 (hg_cons h26 (hg_cons h55 hg_nil)))
theorem okf64 : Ok Try.prog E64 := ok0.of Try.f64
theorem e64 (L : Lp) (R : Option Res → Prop) (a b : List (Elem ks)) (c : List (Elem kl)) (xs : List (Elem k3)) (t : ByteArray) : (bodyP E0 G64 L Try.f64 [.agg [.rsl ks a, .rsl ks b, .rsl kl c], .rsl k3 xs, .val (.string t)] [] R) = (
    br (decide (xs.length ≤ 1048576))
      (br (!ddtOk xs) (R (some { av := AV.val (Value.int IntKind.i64 0), obs := [], outs := [] }))
        (br (decide (t.size ≤ 4611686018427387904))
          (LOOP64 L R 5
            {
              tm :=
                [AV.agg [AV.rsl [CK.str] a, AV.rsl [CK.str] b, AV.rsl [CK.int IntKind.i64, CK.int IntKind.i64, CK.str] c],
                  AV.rsl [CK.int IntKind.i64, CK.int IntKind.i64, CK.int IntKind.i64] xs, AV.val (Value.string t),
                  AV.ptr 0 0, AV.val (Value.tuple #[]), AV.val (Value.tuple #[]), AV.val (Value.int IntKind.i64 0),
                  AV.val (Value.int IntKind.i64 (sumN t)), AV.val (Value.tuple #[]), AV.junk, AV.junk, AV.junk,
                  AV.rsl [CK.int IntKind.i64, CK.int IntKind.i64, CK.int IntKind.i64] xs, AV.val (Value.bool (ddtOk xs)),
                  AV.val (Value.bool !ddtOk xs), AV.val (Value.string t), AV.val (Value.int IntKind.i64 (sumN t)),
                  AV.rsl [CK.int IntKind.i64, CK.int IntKind.i64, CK.int IntKind.i64] xs,
                  AV.val (Value.int IntKind.i64 (↑xs.length : Int)), AV.val (Value.int IntKind.i64 0), AV.junk, AV.junk,
                  AV.junk, AV.junk, AV.junk, AV.junk, AV.junk, AV.junk, AV.junk, AV.junk, AV.junk, AV.junk, AV.junk,
                  AV.junk, AV.junk, AV.junk, AV.junk, AV.junk, AV.junk, AV.junk, AV.junk, AV.junk, AV.junk, AV.junk,
                  AV.junk, AV.junk, AV.junk],
              ob :=
                [(0,
                    AO.box
                      [AV.rsl [CK.str] a, AV.rsl [CK.str] b, AV.rsl [CK.int IntKind.i64, CK.int IntKind.i64, CK.str] c])],
              nx := 1000000, ps := [] })
          False))
      False) := by kernel_rfl
def st64 (a b : List (Elem ks)) (c : List (Elem kl)) (xs : List (Elem k3)) (t : ByteArray) (i : Int) : St :=
  ⟨[AV.agg [AV.rsl [CK.str] a, AV.rsl [CK.str] b, AV.rsl [CK.int IntKind.i64, CK.int IntKind.i64, CK.str] c], AV.rsl [CK.int IntKind.i64, CK.int IntKind.i64, CK.int IntKind.i64] xs, AV.val (Value.string t), AV.ptr 0 0, AV.val (Value.tuple #[]), AV.val (Value.tuple #[]), AV.val (Value.int IntKind.i64 0), AV.val (Value.int IntKind.i64 (sumN t)), AV.val (Value.tuple #[]), AV.junk, AV.junk, AV.junk, AV.rsl [CK.int IntKind.i64, CK.int IntKind.i64, CK.int IntKind.i64] xs, AV.val (Value.bool (ddtOk xs)), AV.val (Value.bool !ddtOk xs), AV.val (Value.string t), AV.val (Value.int IntKind.i64 (sumN t)), AV.rsl [CK.int IntKind.i64, CK.int IntKind.i64, CK.int IntKind.i64] xs, AV.val (Value.int IntKind.i64 (↑xs.length : Int)), .val (.int .i64 i), AV.junk, AV.junk, AV.junk, AV.junk, AV.junk, AV.junk, AV.junk, AV.junk, AV.junk, AV.junk, AV.junk, AV.junk, AV.junk, AV.junk, AV.junk, AV.junk, AV.junk, AV.junk, AV.junk, AV.junk, AV.junk, AV.junk, AV.junk, AV.junk, AV.junk, AV.junk, AV.junk],
    [(0, AO.box [AV.rsl [CK.str] a, AV.rsl [CK.str] b, AV.rsl [CK.int IntKind.i64, CK.int IntKind.i64, CK.str] c])], 1000000, []⟩
theorem b64 (L : Lp) (R : Option Res → Prop) (N : St → Prop) (a b : List (Elem ks)) (c : List (Elem kl)) (xs : List (Elem k3)) (t : ByteArray) (i : Int) : (evP E64 G64 L (lp64 5) (st64 a b c xs t i) (rk64 L R 5 N)) = (
    br (decide (i < (↑xs.length : Int)))
      (br (decide (0 ≤ i ∧ i < (↑xs.length : Int)))
        (br ((xs.getD i.toNat (edflt [CK.int IntKind.i64, CK.int IntKind.i64, CK.int IntKind.i64])).fst != sumN t)
          (N
            {
              tm :=
                [AV.agg [AV.rsl [CK.str] a, AV.rsl [CK.str] b, AV.rsl [CK.int IntKind.i64, CK.int IntKind.i64, CK.str] c],
                  AV.rsl [CK.int IntKind.i64, CK.int IntKind.i64, CK.int IntKind.i64] xs, AV.val (Value.string t),
                  AV.ptr 0 0, AV.val (Value.tuple #[]), AV.val (Value.tuple #[]), AV.val (Value.int IntKind.i64 0),
                  AV.val (Value.int IntKind.i64 (sumN t)), AV.val (Value.tuple #[]), AV.junk, AV.junk, AV.junk,
                  AV.rsl [CK.int IntKind.i64, CK.int IntKind.i64, CK.int IntKind.i64] xs, AV.val (Value.bool (ddtOk xs)),
                  AV.val (Value.bool !ddtOk xs), AV.val (Value.string t), AV.val (Value.int IntKind.i64 (sumN t)),
                  AV.rsl [CK.int IntKind.i64, CK.int IntKind.i64, CK.int IntKind.i64] xs,
                  AV.val (Value.int IntKind.i64 (↑xs.length : Int)),
                  AV.val (Value.int IntKind.i64 (IntKind.i64.wrap (i + 1))), AV.junk, AV.junk, AV.junk, AV.junk, AV.junk,
                  AV.junk, AV.junk, AV.junk, AV.junk, AV.junk, AV.junk, AV.junk, AV.junk, AV.junk, AV.junk, AV.junk,
                  AV.junk, AV.junk, AV.junk, AV.junk, AV.junk, AV.junk, AV.junk, AV.junk, AV.junk, AV.junk, AV.junk],
              ob :=
                [(0,
                    AO.box
                      [AV.rsl [CK.str] a, AV.rsl [CK.str] b, AV.rsl [CK.int IntKind.i64, CK.int IntKind.i64, CK.str] c])],
              nx := 1000000, ps := [] })
          (br (smD a b c)
            (br
              ((rdBlk a b c (xs.getD i.toNat (edflt [CK.int IntKind.i64, CK.int IntKind.i64, CK.int IntKind.i64])).snd.fst
                    (xs.getD i.toNat (edflt [CK.int IntKind.i64, CK.int IntKind.i64, CK.int IntKind.i64])).fst 0).snd ==
                0)
              (br
                (strEq
                  (rdBlk a b c
                      (xs.getD i.toNat (edflt [CK.int IntKind.i64, CK.int IntKind.i64, CK.int IntKind.i64])).snd.fst
                      (xs.getD i.toNat (edflt [CK.int IntKind.i64, CK.int IntKind.i64, CK.int IntKind.i64])).fst 0).fst
                  t)
                (R
                  (some
                    {
                      av :=
                        AV.val
                          (Value.int IntKind.i64
                            (xs.getD i.toNat (edflt [CK.int IntKind.i64, CK.int IntKind.i64, CK.int IntKind.i64])).snd.fst),
                      obs := [], outs := [] }))
                (N
                  {
                    tm :=
                      [AV.agg
                          [AV.rsl [CK.str] a, AV.rsl [CK.str] b, AV.rsl [CK.int IntKind.i64, CK.int IntKind.i64, CK.str] c],
                        AV.rsl [CK.int IntKind.i64, CK.int IntKind.i64, CK.int IntKind.i64] xs, AV.val (Value.string t),
                        AV.ptr 0 0, AV.val (Value.tuple #[]), AV.val (Value.tuple #[]), AV.val (Value.int IntKind.i64 0),
                        AV.val (Value.int IntKind.i64 (sumN t)), AV.val (Value.tuple #[]), AV.junk, AV.junk, AV.junk,
                        AV.rsl [CK.int IntKind.i64, CK.int IntKind.i64, CK.int IntKind.i64] xs,
                        AV.val (Value.bool (ddtOk xs)), AV.val (Value.bool !ddtOk xs), AV.val (Value.string t),
                        AV.val (Value.int IntKind.i64 (sumN t)),
                        AV.rsl [CK.int IntKind.i64, CK.int IntKind.i64, CK.int IntKind.i64] xs,
                        AV.val (Value.int IntKind.i64 (↑xs.length : Int)),
                        AV.val (Value.int IntKind.i64 (IntKind.i64.wrap (i + 1))), AV.junk, AV.junk, AV.junk, AV.junk,
                        AV.junk, AV.junk, AV.junk, AV.junk, AV.junk, AV.junk, AV.junk, AV.junk, AV.junk, AV.junk, AV.junk,
                        AV.junk, AV.junk, AV.junk, AV.junk, AV.junk, AV.junk, AV.junk, AV.junk, AV.junk, AV.junk, AV.junk,
                        AV.junk],
                    ob :=
                      [(0,
                          AO.box
                            [AV.rsl [CK.str] a, AV.rsl [CK.str] b,
                              AV.rsl [CK.int IntKind.i64, CK.int IntKind.i64, CK.str] c])],
                    nx := 1000000, ps := [] }))
              (N
                {
                  tm :=
                    [AV.agg
                        [AV.rsl [CK.str] a, AV.rsl [CK.str] b, AV.rsl [CK.int IntKind.i64, CK.int IntKind.i64, CK.str] c],
                      AV.rsl [CK.int IntKind.i64, CK.int IntKind.i64, CK.int IntKind.i64] xs, AV.val (Value.string t),
                      AV.ptr 0 0, AV.val (Value.tuple #[]), AV.val (Value.tuple #[]), AV.val (Value.int IntKind.i64 0),
                      AV.val (Value.int IntKind.i64 (sumN t)), AV.val (Value.tuple #[]), AV.junk, AV.junk, AV.junk,
                      AV.rsl [CK.int IntKind.i64, CK.int IntKind.i64, CK.int IntKind.i64] xs,
                      AV.val (Value.bool (ddtOk xs)), AV.val (Value.bool !ddtOk xs), AV.val (Value.string t),
                      AV.val (Value.int IntKind.i64 (sumN t)),
                      AV.rsl [CK.int IntKind.i64, CK.int IntKind.i64, CK.int IntKind.i64] xs,
                      AV.val (Value.int IntKind.i64 (↑xs.length : Int)),
                      AV.val (Value.int IntKind.i64 (IntKind.i64.wrap (i + 1))), AV.junk, AV.junk, AV.junk, AV.junk,
                      AV.junk, AV.junk, AV.junk, AV.junk, AV.junk, AV.junk, AV.junk, AV.junk, AV.junk, AV.junk, AV.junk,
                      AV.junk, AV.junk, AV.junk, AV.junk, AV.junk, AV.junk, AV.junk, AV.junk, AV.junk, AV.junk, AV.junk,
                      AV.junk],
                  ob :=
                    [(0,
                        AO.box
                          [AV.rsl [CK.str] a, AV.rsl [CK.str] b,
                            AV.rsl [CK.int IntKind.i64, CK.int IntKind.i64, CK.str] c])],
                  nx := 1000000, ps := [] }))
            False))
        False)
      (R (some { av := AV.val (Value.int IntKind.i64 0), obs := [], outs := [] }))) := by kernel_rfl
theorem h64 : G1Ok Try.prog 64 g63 := by
  intro args obs k h
  unfold g63 at h
  split at h
  · rename_i k a b c xs t
    obtain ⟨hd, hx, h⟩ := brb2 h
    rw [Bool.and_eq_true] at hx
    have hx1 := of_decide_eq_true hx.1
    refine ⟨_, ctr_fn ok0 hg64 Try.func64 (by kernel_rfl) (by kernel_rfl) (by kernel_rfl) fun C => ?_, h⟩
    rw [e64]
    refine br_t hx.1 (br_not (fun h1 => ?_) (fun h1 => br_t hx.2 ?_))
    · show _ = _
      unfold fndR
      rw [h1]
    refine loopFd okf64 hg64 (fun i => st64 a b c xs t i) xs.length (fndP a b c xs t) (by omega) (fun N i hi hw next found none => ?_)
    show evP E64 G64 _ (lp64 5) (st64 a b c xs t i) (rk64 _ _ 5 _)
    rw [b64, hw, Int.toNat_natCast]
    have hp : fndP a b c xs t i = ((xs.getD i (edflt k3)).1 == sumN t && ((rdBlk a b c (xs.getD i (edflt k3)).2.1 (sumN t) 0).2 == 0 && strEq (rdBlk a b c (xs.getD i (edflt k3)).2.1 (sumN t) 0).1 t)) := rfl
    refine br_dec (fun h2 => br_yes ⟨by omega, h2⟩ (br_intro (fun h3 => ?_) (fun h3 => ?_))) (fun h2 => ?_)
    · have h3' : ((xs.getD i (edflt k3)).1 == sumN t) = false := by
        rw [bne, Bool.not_eq_true'] at h3
        exact h3
      exact next (by omega) (by rw [hp, h3']; rfl)
    · have h3' : ((xs.getD i (edflt k3)).1 == sumN t) = true := by
        rw [bne, Bool.not_eq_false'] at h3
        exact h3
      have e : (xs.getD i (edflt k3)).1 = sumN t := by simpa using h3'
      rw [e]
      refine br_t hd (br_intro (fun h4 => br_intro (fun h5 => ?_) (fun h5 => ?_)) (fun h4 => ?_))
      · show _ = _
        unfold fndR
        rw [h1, found (by omega) (by rw [hp, h3', h4, h5]; rfl)]
        rfl
      · exact next (by omega) (by rw [hp, h5]; simp)
      · exact next (by omega) (by rw [hp, h4]; simp)
    · show _ = _
      unfold fndR
      rw [h1, none (by omega)]
  · exact h.elim
noncomputable def E17 : Env := E0.of Try.f17
noncomputable def G17 : Gk := gk [(23, g23), (25, g25), (27, g27), (37, g37), (40, g40), (42, g42), (63, g63), (64, g63)]
noncomputable def lp17 (n : Nat) : Code := (loopOf n (codeOf Try.f17)).getD .skip
noncomputable def ct17 (L : Lp) (R : Option Res → Prop) (n : Nat) : Kt := contOf E17 G17 L n (codeOf Try.f17) (endK E17 Try.f17.results.toList R)
noncomputable def rk17 (L : Lp) (R : Option Res → Prop) (n : Nat) (N : St → Prop) : Kt := rk (jof E17 (lp17 n)) N (ct17 L R n)
noncomputable def LOOP17 (L : Lp) (R : Option Res → Prop) (n : Nat) (st : St) : Prop := L (lp17 n) st (ct17 L R n)
theorem hg17 : HG Try.prog G17 := (hg_cons h23 (hg_cons h25 (hg_cons h27 (hg_cons h37 (hg_cons h40 (hg_cons h42 (hg_cons h63 (hg_cons h64 hg_nil))))))))
theorem okf17 : Ok Try.prog E17 := ok0.of Try.f17
theorem e17 (L : Lp) (R : Option Res → Prop) (a b : List (Elem ks)) (c : List (Elem kl)) (xs : List (Elem k3)) (t : ByteArray) : (bodyP E0 G17 L Try.f17 [.agg [.rsl ks a, .rsl ks b, .rsl kl c], .rsl k3 xs, .val (.string t)] [] R) = (
    br (decide ((↑t.size : Int) > 1048576)) (R (some { av := AV.val (Value.bool true), obs := [], outs := [] }))
      (br (inD a b c && true)
        (br (decide (szR 1048576 (szD a b c) < 0)) (R (some { av := AV.val (Value.bool true), obs := [], outs := [] }))
          (br (decide (IntKind.i64.wrap (szR 1048576 (szD a b c) - (↑xs.length : Int)) < 0))
            (R (some { av := AV.val (Value.bool true), obs := [], outs := [] }))
            (br (decide (IntKind.i64.wrap (szR 1048576 (szD a b c) - (↑xs.length : Int)) < 0))
              (R (some { av := AV.val (Value.bool true), obs := [], outs := [] }))
              (br (smD a b c)
                (br (decide (xs.length ≤ 1048576))
                  (br (smD a b c && (decide (xs.length ≤ 1048576) && decide (t.size ≤ 4611686018427387904)))
                    (br (smD a b c)
                      (br (decide (xs.length ≤ 1048576))
                        (br (smD a b c && (decide (xs.length ≤ 1048576) && decide (t.size ≤ 4611686018427387904)))
                          (br (fndR a b c xs t != fndR a b c xs t)
                            (R (some { av := AV.val (Value.bool false), obs := [], outs := [] }))
                            (br (smD a b c)
                              (br (smD a b c)
                                (br (!eqD a b c a b c) (R (some { av := AV.val (Value.bool false), obs := [], outs := [] }))
                                  (br (decide (xs.length ≤ 1048576))
                                    (br (decide (xs.length ≤ 1048576))
                                      (br (!eqF xs xs) (R (some { av := AV.val (Value.bool false), obs := [], outs := [] }))
                                        (R (some { av := AV.val (Value.bool true), obs := [], outs := [] })))
                                      False)
                                    False))
                                False)
                              False))
                          False)
                        False)
                      False)
                    False)
                  False)
                False))))
        False)) := by kernel_rfl
theorem c17 (a b : List (Elem ks)) (c : List (Elem kl)) (xs : List (Elem k3)) (t : ByteArray) (h : dOk a b c) (hm : xs.length ≤ maxLen) :
    Ctr Try.prog 17 [.agg [.rsl ks a, .rsl ks b, .rsl kl c], .rsl k3 xs, .val (.string t)] [] ⟨.val (.bool true), [], []⟩ := by
  have hm' : xs.length ≤ 9223372036854775807 := hm
  refine ctr_fn ok0 hg17 Try.func17 (by kernel_rfl) (by kernel_rfl) (by kernel_rfl) fun C => ?_
  rw [e17, inD_of h, eqD_self, eqF_self]
  refine br_dec (fun _ => rfl) (fun h0 => br_t rfl (br_dec (fun _ => rfl) (fun h1 => ?_)))
  have d1 := smD_of (by omega) h1
  have g1 := szR_ge0 h1
  rw [szR_pos g1]
  refine br_dec (fun _ => rfl) (fun h2 => br_dec (fun _ => rfl) (fun _ => ?_))
  rw [wrap_id (by omega) (by omega)] at h2
  have hx : decide (xs.length ≤ 1048576) = true := decide_eq_true (by omega)
  have ht : decide (t.size ≤ 4611686018427387904) = true := decide_eq_true (by omega)
  have hp : (smD a b c && (decide (xs.length ≤ 1048576) && decide (t.size ≤ 4611686018427387904))) = true := by rw [d1, hx, ht]; rfl
  refine br_t d1 (br_t hx (br_t hp (br_t d1 (br_t hx (br_t hp (br_intro (fun h => ?_) (fun _ => ?_)))))))
  · simp at h
  exact br_t d1 (br_t d1 (br_not (fun h => by cases h) (fun _ => br_t hx (br_t hx (br_not (fun h => by cases h) (fun _ => rfl))))))
end Go.Proofs.Ytjhjhkphcemcmaa.Ev
