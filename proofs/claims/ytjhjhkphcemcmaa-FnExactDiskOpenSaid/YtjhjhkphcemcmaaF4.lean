/- Contracts for the place of an entry; the law of DdtCount. -/
import Derived.Test.YtjhjhkphcemcmaaF3
namespace Go.Proofs.Ytjhjhkphcemcmaa.Ev
open Go
set_option linter.unusedVariables false
set_option linter.unusedSimpArgs false
set_option maxRecDepth 100000
def g122 : G1
  | [.agg [.val (.int .i64 a), .val (.int .i64 b), .val (.int .i64 c)], .val (.int .i64 t)], [], k => k ⟨.val (.int .i64 (IntKind.i64.wrap (b - t))), [], []⟩
  | _, _, _ => False
def bsf (p : Nat → Bool) (i j : Nat) : Nat :=
  if h : i < j then if p ((i + j) / 2) then bsf p ((i + j) / 2 + 1) j else bsf p i ((i + j) / 2) else i
termination_by j - i
def cmL (xs : List (Elem k3)) (t : Int) (m : Nat) : Bool := decide (IntKind.i64.wrap ((at3 xs m).2.1 - t) < 0)
def bsAt (xs : List (Elem k3)) (t : Int) : Nat := bsf (cmL xs t) 0 xs.length
def bsOk (xs : List (Elem k3)) (t : Int) : Bool := decide (bsAt xs t < xs.length) && (IntKind.i64.wrap ((at3 xs (bsAt xs t)).2.1 - t) == 0)
def g121 : G1
  | [.rsl [.int .i64, .int .i64, .int .i64] xs, .val (.int .i64 t), .fn 122 []], [], k => br (decide (xs.length ≤ 1048576)) (k ⟨.tup [.val (.int .i64 (bsAt xs t : Int)), .val (.bool (bsOk xs t))], [], []⟩) False
  | _, _, _ => False
def lnf (xs : List (Elem k3)) (t : Int) (i n : Nat) : Nat :=
  match n with
  | 0 => i
  | n + 1 => if (at3 xs i).2.1 < t then lnf xs t (i + 1) n else i
def lnAt (xs : List (Elem k3)) (t : Int) : Nat := lnf xs t 0 xs.length
def lnOk (xs : List (Elem k3)) (t : Int) : Bool := decide (lnAt xs t < xs.length) && ((at3 xs (lnAt xs t)).2.1 == t)
def g72 : G1
  | [.rsl [.int .i64, .int .i64, .int .i64] xs, .val (.int .i64 t)], [], k => br (decide (xs.length ≤ 1048576)) (k ⟨.tup [.val (.int .i64 (lnAt xs t : Int)), .val (.bool (lnOk xs t))], [], []⟩) False
  | _, _, _ => False
def g73 : G1
  | [.rsl [.int .i64, .int .i64, .int .i64] xs, .val (.int .i64 t)], [], k => br (decide (xs.length ≤ 1048576)) (k ⟨.tup [.val (.int .i64 (bsAt xs t : Int)), .val (.bool (bsOk xs t))], [], []⟩) False
  | _, _, _ => False
def cntOf (xs : List (Elem k3)) (t : Int) : Int := if ddtOk xs && lnOk xs t then (at3 xs (lnAt xs t)).2.2.1 else 0
def g28 : G1
  | [.rsl [.int .i64, .int .i64, .int .i64] xs, .val (.int .i64 t)], [], k => br (decide (xs.length ≤ 1048576)) (br (decide (-9223372036854775808 ≤ t ∧ t ≤ 9223372036854775807)) (k ⟨.val (.int .i64 (cntOf xs t)), [], []⟩) False) False
  | _, _, _ => False
theorem e122 (L : Lp) (R : Option Res → Prop) (a b c t : Int) : (bodyP E0 (gk []) L Try.f122 [.agg [.val (.int .i64 a), .val (.int .i64 b), .val (.int .i64 c)], .val (.int .i64 t)] [] R) = (
    R (some { av := AV.val (Value.int IntKind.i64 (IntKind.i64.wrap (b - t))), obs := [], outs := [] })) := by kernel_rfl
theorem h122 : G1Ok Try.prog 122 g122 := by
  intro args obs k h
  unfold g122 at h
  split at h
  · refine ⟨_, ctr_fn ok0 hg_nil Try.func122 (by kernel_rfl) (by kernel_rfl) (by kernel_rfl) fun C => ?_, h⟩
    rw [e122]
  · exact h.elim
noncomputable def E121 : Env := E0.of Try.f121
noncomputable def G121 : Gk := gk [(122, g122)]
noncomputable def lp121 (n : Nat) : Code := (loopOf n (codeOf Try.f121)).getD .skip
noncomputable def ct121 (L : Lp) (R : Option Res → Prop) (n : Nat) : Kt := contOf E121 G121 L n (codeOf Try.f121) (endK E121 Try.f121.results.toList R)
noncomputable def rk121 (L : Lp) (R : Option Res → Prop) (n : Nat) (N : St → Prop) : Kt := rk (jof E121 (lp121 n)) N (ct121 L R n)
noncomputable def LOOP121 (L : Lp) (R : Option Res → Prop) (n : Nat) (st : St) : Prop := L (lp121 n) st (ct121 L R n)
theorem hg121 : HG Try.prog G121 := (hg_cons h122 hg_nil)
theorem okf121 : Ok Try.prog E121 := ok0.of Try.f121
theorem e121 (L : Lp) (R : Option Res → Prop) (xs : List (Elem k3)) (t : Int) : (bodyP E0 G121 L Try.f121 [.rsl k3 xs, .val (.int .i64 t), .fn 122 []] [] R) = (
    LOOP121 L R 3
      {
        tm :=
          [AV.rsl [CK.int IntKind.i64, CK.int IntKind.i64, CK.int IntKind.i64] xs, AV.val (Value.int IntKind.i64 t),
            AV.fn 122 [], AV.val (Value.tuple #[]), AV.val (Value.tuple #[]), AV.val (Value.tuple #[]),
            AV.val (Value.int IntKind.i64 0), AV.val (Value.bool false), AV.val (Value.int IntKind.i64 (↑xs.length : Int)),
            AV.val (Value.int IntKind.i64 0), AV.val (Value.int IntKind.i64 (↑xs.length : Int)), AV.junk,
            AV.rsl [CK.int IntKind.i64, CK.int IntKind.i64, CK.int IntKind.i64] xs,
            AV.val (Value.int IntKind.i64 (↑xs.length : Int)), AV.val (Value.int IntKind.i64 (↑xs.length : Int)), AV.junk,
            AV.junk, AV.junk, AV.junk, AV.junk, AV.junk, AV.junk, AV.junk, AV.junk, AV.junk, AV.junk, AV.junk, AV.junk,
            AV.junk, AV.junk, AV.junk, AV.junk, AV.junk, AV.junk, AV.junk, AV.val (Value.tuple #[]),
            AV.val (Value.tuple #[]), AV.val (Value.tuple #[]), AV.val (Value.tuple #[]), AV.val (Value.tuple #[]),
            AV.val (Value.tuple #[]), AV.val (Value.tuple #[]), AV.val (Value.tuple #[]), AV.val (Value.tuple #[]),
            AV.val (Value.tuple #[]), AV.val (Value.tuple #[]), AV.val (Value.tuple #[]), AV.val (Value.tuple #[]),
            AV.val (Value.tuple #[])],
        ob := [], nx := 1000000, ps := [] }) := by kernel_rfl
def st121 (xs : List (Elem k3)) (t i j : Int) : St :=
  ⟨[AV.rsl [CK.int IntKind.i64, CK.int IntKind.i64, CK.int IntKind.i64] xs, AV.val (Value.int IntKind.i64 t), AV.fn 122 [], AV.val (Value.tuple #[]), AV.val (Value.tuple #[]), AV.val (Value.tuple #[]), AV.val (Value.int IntKind.i64 0), AV.val (Value.bool false), AV.val (Value.int IntKind.i64 (↑xs.length : Int)), .val (.int .i64 i), .val (.int .i64 j), AV.junk, AV.rsl [CK.int IntKind.i64, CK.int IntKind.i64, CK.int IntKind.i64] xs, AV.val (Value.int IntKind.i64 (↑xs.length : Int)), AV.val (Value.int IntKind.i64 (↑xs.length : Int)), AV.junk, AV.junk, AV.junk, AV.junk, AV.junk, AV.junk, AV.junk, AV.junk, AV.junk, AV.junk, AV.junk, AV.junk, AV.junk, AV.junk, AV.junk, AV.junk, AV.junk, AV.junk, AV.junk, AV.junk, AV.val (Value.tuple #[]), AV.val (Value.tuple #[]), AV.val (Value.tuple #[]), AV.val (Value.tuple #[]), AV.val (Value.tuple #[]), AV.val (Value.tuple #[]), AV.val (Value.tuple #[]), AV.val (Value.tuple #[]), AV.val (Value.tuple #[]), AV.val (Value.tuple #[]), AV.val (Value.tuple #[]), AV.val (Value.tuple #[]), AV.val (Value.tuple #[]), AV.val (Value.tuple #[])],
    [], 1000000, []⟩
theorem b121 (L : Lp) (R : Option Res → Prop) (N : St → Prop) (xs : List (Elem k3)) (t i j : Int) : (evP E121 G121 L (lp121 3) (st121 xs t i j) (rk121 L R 3 N)) = (
    br (decide (i < j))
      (br
        (decide
          (0 ≤ IntKind.i64.wrap ((IntKind.u64.wrap (IntKind.i64.wrap (i + j))).fdiv 2) ∧
            IntKind.i64.wrap ((IntKind.u64.wrap (IntKind.i64.wrap (i + j))).fdiv 2) < (↑xs.length : Int)))
        (br
          (decide
            (IntKind.i64.wrap
                ((xs.getD (IntKind.i64.wrap ((IntKind.u64.wrap (IntKind.i64.wrap (i + j))).fdiv 2)).toNat
                        (edflt [CK.int IntKind.i64, CK.int IntKind.i64, CK.int IntKind.i64])).snd.fst -
                  t) <
              0))
          (N
            {
              tm :=
                [AV.rsl [CK.int IntKind.i64, CK.int IntKind.i64, CK.int IntKind.i64] xs, AV.val (Value.int IntKind.i64 t),
                  AV.fn 122 [], AV.val (Value.tuple #[]), AV.val (Value.tuple #[]), AV.val (Value.tuple #[]),
                  AV.val (Value.int IntKind.i64 0), AV.val (Value.bool false),
                  AV.val (Value.int IntKind.i64 (↑xs.length : Int)),
                  AV.val
                    (Value.int IntKind.i64
                      (IntKind.i64.wrap (IntKind.i64.wrap ((IntKind.u64.wrap (IntKind.i64.wrap (i + j))).fdiv 2) + 1))),
                  AV.val (Value.int IntKind.i64 j), AV.junk,
                  AV.rsl [CK.int IntKind.i64, CK.int IntKind.i64, CK.int IntKind.i64] xs,
                  AV.val (Value.int IntKind.i64 (↑xs.length : Int)), AV.val (Value.int IntKind.i64 (↑xs.length : Int)),
                  AV.junk, AV.junk, AV.junk, AV.junk, AV.junk, AV.junk, AV.junk, AV.junk, AV.junk, AV.junk, AV.junk,
                  AV.junk, AV.junk, AV.junk, AV.junk, AV.junk, AV.junk, AV.junk, AV.junk, AV.junk, AV.val (Value.tuple #[]),
                  AV.val (Value.tuple #[]), AV.val (Value.tuple #[]), AV.val (Value.tuple #[]), AV.val (Value.tuple #[]),
                  AV.val (Value.tuple #[]), AV.val (Value.tuple #[]), AV.val (Value.tuple #[]), AV.val (Value.tuple #[]),
                  AV.val (Value.tuple #[]), AV.val (Value.tuple #[]), AV.val (Value.tuple #[]), AV.val (Value.tuple #[]),
                  AV.val (Value.tuple #[])],
              ob := [], nx := 1000000, ps := [] })
          (N
            {
              tm :=
                [AV.rsl [CK.int IntKind.i64, CK.int IntKind.i64, CK.int IntKind.i64] xs, AV.val (Value.int IntKind.i64 t),
                  AV.fn 122 [], AV.val (Value.tuple #[]), AV.val (Value.tuple #[]), AV.val (Value.tuple #[]),
                  AV.val (Value.int IntKind.i64 0), AV.val (Value.bool false),
                  AV.val (Value.int IntKind.i64 (↑xs.length : Int)), AV.val (Value.int IntKind.i64 i),
                  AV.val (Value.int IntKind.i64 (IntKind.i64.wrap ((IntKind.u64.wrap (IntKind.i64.wrap (i + j))).fdiv 2))),
                  AV.junk, AV.rsl [CK.int IntKind.i64, CK.int IntKind.i64, CK.int IntKind.i64] xs,
                  AV.val (Value.int IntKind.i64 (↑xs.length : Int)), AV.val (Value.int IntKind.i64 (↑xs.length : Int)),
                  AV.junk, AV.junk, AV.junk, AV.junk, AV.junk, AV.junk, AV.junk, AV.junk, AV.junk, AV.junk, AV.junk,
                  AV.junk, AV.junk, AV.junk, AV.junk, AV.junk, AV.junk, AV.junk, AV.junk, AV.junk, AV.val (Value.tuple #[]),
                  AV.val (Value.tuple #[]), AV.val (Value.tuple #[]), AV.val (Value.tuple #[]), AV.val (Value.tuple #[]),
                  AV.val (Value.tuple #[]), AV.val (Value.tuple #[]), AV.val (Value.tuple #[]), AV.val (Value.tuple #[]),
                  AV.val (Value.tuple #[]), AV.val (Value.tuple #[]), AV.val (Value.tuple #[]), AV.val (Value.tuple #[]),
                  AV.val (Value.tuple #[])],
              ob := [], nx := 1000000, ps := [] }))
        False)
      (br (decide (i < (↑xs.length : Int)))
        (br (decide (0 ≤ i ∧ i < (↑xs.length : Int)))
          (R
            (some
              {
                av :=
                  AV.tup
                    [AV.val (Value.int IntKind.i64 i),
                      AV.val
                        (Value.bool
                          (IntKind.i64.wrap
                              ((xs.getD i.toNat
                                      (edflt [CK.int IntKind.i64, CK.int IntKind.i64, CK.int IntKind.i64])).snd.fst -
                                t) ==
                            0))],
                obs := [], outs := [] }))
          False)
        (R (some { av := AV.tup [AV.val (Value.int IntKind.i64 i), AV.val (Value.bool false)], obs := [], outs := [] })))) := by kernel_rfl
noncomputable def E72 : Env := E0.of Try.f72
noncomputable def G72 : Gk := gk []
noncomputable def lp72 (n : Nat) : Code := (loopOf n (codeOf Try.f72)).getD .skip
noncomputable def ct72 (L : Lp) (R : Option Res → Prop) (n : Nat) : Kt := contOf E72 G72 L n (codeOf Try.f72) (endK E72 Try.f72.results.toList R)
noncomputable def rk72 (L : Lp) (R : Option Res → Prop) (n : Nat) (N : St → Prop) : Kt := rk (jof E72 (lp72 n)) N (ct72 L R n)
noncomputable def LOOP72 (L : Lp) (R : Option Res → Prop) (n : Nat) (st : St) : Prop := L (lp72 n) st (ct72 L R n)
theorem hg72 : HG Try.prog G72 := hg_nil
theorem okf72 : Ok Try.prog E72 := ok0.of Try.f72
theorem e72 (L : Lp) (R : Option Res → Prop) (xs : List (Elem k3)) (t : Int) : (bodyP E0 G72 L Try.f72 [.rsl k3 xs, .val (.int .i64 t)] [] R) = (
    LOOP72 L R 2
      {
        tm :=
          [AV.rsl [CK.int IntKind.i64, CK.int IntKind.i64, CK.int IntKind.i64] xs, AV.val (Value.int IntKind.i64 t),
            AV.val (Value.tuple #[]), AV.val (Value.tuple #[]), AV.val (Value.int IntKind.i64 0), AV.val (Value.bool false),
            AV.val (Value.int IntKind.i64 0), AV.junk, AV.junk, AV.junk, AV.junk, AV.junk, AV.junk, AV.junk, AV.junk,
            AV.junk, AV.junk, AV.junk, AV.junk, AV.junk, AV.junk, AV.junk, AV.val (Value.tuple #[]),
            AV.val (Value.tuple #[]), AV.val (Value.tuple #[]), AV.val (Value.tuple #[]), AV.val (Value.tuple #[]),
            AV.val (Value.tuple #[]), AV.val (Value.tuple #[]), AV.val (Value.tuple #[]), AV.val (Value.tuple #[]),
            AV.val (Value.tuple #[]), AV.val (Value.tuple #[]), AV.val (Value.tuple #[]), AV.val (Value.tuple #[]),
            AV.val (Value.tuple #[])],
        ob := [], nx := 1000000, ps := [] }) := by kernel_rfl
def st72 (xs : List (Elem k3)) (t i : Int) : St :=
  ⟨[AV.rsl [CK.int IntKind.i64, CK.int IntKind.i64, CK.int IntKind.i64] xs, AV.val (Value.int IntKind.i64 t), AV.val (Value.tuple #[]), AV.val (Value.tuple #[]), AV.val (Value.int IntKind.i64 0), AV.val (Value.bool false), .val (.int .i64 i), AV.junk, AV.junk, AV.junk, AV.junk, AV.junk, AV.junk, AV.junk, AV.junk, AV.junk, AV.junk, AV.junk, AV.junk, AV.junk, AV.junk, AV.junk, AV.val (Value.tuple #[]), AV.val (Value.tuple #[]), AV.val (Value.tuple #[]), AV.val (Value.tuple #[]), AV.val (Value.tuple #[]), AV.val (Value.tuple #[]), AV.val (Value.tuple #[]), AV.val (Value.tuple #[]), AV.val (Value.tuple #[]), AV.val (Value.tuple #[]), AV.val (Value.tuple #[]), AV.val (Value.tuple #[]), AV.val (Value.tuple #[]), AV.val (Value.tuple #[])],
    [], 1000000, []⟩
theorem b72 (L : Lp) (R : Option Res → Prop) (N : St → Prop) (xs : List (Elem k3)) (t i : Int) : (evP E72 G72 L (lp72 2) (st72 xs t i) (rk72 L R 2 N)) = (
    br (decide (i < (↑xs.length : Int)))
      (br (decide (0 ≤ i ∧ i < (↑xs.length : Int)))
        (br (decide ((xs.getD i.toNat (edflt [CK.int IntKind.i64, CK.int IntKind.i64, CK.int IntKind.i64])).snd.fst < t))
          (N
            {
              tm :=
                [AV.rsl [CK.int IntKind.i64, CK.int IntKind.i64, CK.int IntKind.i64] xs, AV.val (Value.int IntKind.i64 t),
                  AV.val (Value.tuple #[]), AV.val (Value.tuple #[]), AV.val (Value.int IntKind.i64 0),
                  AV.val (Value.bool false), AV.val (Value.int IntKind.i64 (IntKind.i64.wrap (i + 1))), AV.junk, AV.junk,
                  AV.junk, AV.junk, AV.junk, AV.junk, AV.junk, AV.junk, AV.junk, AV.junk, AV.junk, AV.junk, AV.junk,
                  AV.junk, AV.junk, AV.val (Value.tuple #[]), AV.val (Value.tuple #[]), AV.val (Value.tuple #[]),
                  AV.val (Value.tuple #[]), AV.val (Value.tuple #[]), AV.val (Value.tuple #[]), AV.val (Value.tuple #[]),
                  AV.val (Value.tuple #[]), AV.val (Value.tuple #[]), AV.val (Value.tuple #[]), AV.val (Value.tuple #[]),
                  AV.val (Value.tuple #[]), AV.val (Value.tuple #[]), AV.val (Value.tuple #[])],
              ob := [], nx := 1000000, ps := [] })
          (br (decide (i < (↑xs.length : Int)))
            (br (decide (0 ≤ i ∧ i < (↑xs.length : Int)))
              (R
                (some
                  {
                    av :=
                      AV.tup
                        [AV.val (Value.int IntKind.i64 i),
                          AV.val
                            (Value.bool
                              ((xs.getD i.toNat
                                      (edflt [CK.int IntKind.i64, CK.int IntKind.i64, CK.int IntKind.i64])).snd.fst ==
                                t))],
                    obs := [], outs := [] }))
              False)
            (R
              (some
                { av := AV.tup [AV.val (Value.int IntKind.i64 i), AV.val (Value.bool false)], obs := [], outs := [] }))))
        False)
      (br (decide (i < (↑xs.length : Int)))
        (br (decide (0 ≤ i ∧ i < (↑xs.length : Int)))
          (R
            (some
              {
                av :=
                  AV.tup
                    [AV.val (Value.int IntKind.i64 i),
                      AV.val
                        (Value.bool
                          ((xs.getD i.toNat (edflt [CK.int IntKind.i64, CK.int IntKind.i64, CK.int IntKind.i64])).snd.fst ==
                            t))],
                obs := [], outs := [] }))
          False)
        (R (some { av := AV.tup [AV.val (Value.int IntKind.i64 i), AV.val (Value.bool false)], obs := [], outs := [] })))) := by kernel_rfl
theorem bsf_le (p : Nat → Bool) (i j : Nat) (h : i ≤ j) : i ≤ bsf p i j ∧ bsf p i j ≤ j := by
  fun_induction bsf p i j with
  | case1 i j hlt hp ih => have := ih (by omega); omega
  | case2 i j hlt hp ih => have := ih (by omega); omega
  | case3 i j hlt => omega
theorem h121 : G1Ok Try.prog 121 g121 := by
  intro args obs k h
  unfold g121 at h
  split at h
  · rename_i k xs t
    obtain ⟨hlen, h⟩ := br_and h
    simp at hlen
    refine ⟨_, ctr_fn ok0 hg121 Try.func121 (by kernel_rfl) (by kernel_rfl) (by kernel_rfl) fun C => ?_, h⟩
    rw [e121]
    exact loopR okf121 hg121 (ι := {p : Nat × Nat // p.1 ≤ p.2 ∧ p.2 ≤ xs.length ∧ bsf (cmL xs t) p.1 p.2 = bsAt xs t}) (fun p => st121 xs t p.1.1 p.1.2) (fun p => p.1.2 - p.1.1) (fun ⟨(i, j), h0, h1, hb⟩ => by
      show evP E121 G121 _ (lp121 3) (st121 xs t i j) (rk121 _ _ 3 _)
      rw [b121]
      simp only at h0 h1 hb
      have hm : IntKind.i64.wrap ((IntKind.u64.wrap (IntKind.i64.wrap ((i : Int) + j))).fdiv 2) = (((i + j) / 2 : Nat) : Int) := by
        rw [wrap_id (n := (i : Int) + j) (by omega) (by omega)]
        have hu : IntKind.u64.wrap ((i : Int) + j) = (i : Int) + j := by rw [IntKind.wrap_u64]; omega
        rw [hu, Int.fdiv_eq_ediv_of_nonneg _ (by omega)]
        rw [wrap_id (by omega) (by omega)]
        omega
      rw [hm]
      have hw1 : IntKind.i64.wrap ((((i + j) / 2 : Nat) : Int) + 1) = (((i + j) / 2 + 1 : Nat) : Int) := by rw [wrap_id (by omega) (by omega)]; omega
      rw [hw1]
      refine br_intro (fun h2 => ?_) (fun h2 => ?_)
      · simp at h2
        rw [bsf, dif_pos h2] at hb
        refine br_intro (fun _ => ?_) (fun h3 => by simp at h3; omega)
        refine br_intro (fun h3 => ?_) (fun h3 => ?_)
        · have hp : cmL xs t ((i + j) / 2) = true := h3
          rw [if_pos hp] at hb
          exact ⟨⟨((i + j) / 2 + 1, j), by show (i + j) / 2 + 1 ≤ j; omega, h1, hb⟩, rfl, by show j - ((i + j) / 2 + 1) < j - i; omega⟩
        · have hp : ¬ cmL xs t ((i + j) / 2) = true := by
            have : cmL xs t ((i + j) / 2) = false := h3
            simp [this]
          rw [if_neg hp] at hb
          exact ⟨⟨(i, (i + j) / 2), by show i ≤ (i + j) / 2; omega, by show (i + j) / 2 ≤ xs.length; omega, hb⟩, rfl, by show (i + j) / 2 - i < j - i; omega⟩
      · simp at h2
        rw [bsf, dif_neg (by omega)] at hb
        have hi : ((i : Int)).toNat = i := by omega
        refine br_intro (fun h3 => ?_) (fun h3 => ?_)
        · simp at h3
          refine br_intro (fun _ => ?_) (fun h4 => by simp at h4; omega)
          show _ = _
          unfold bsOk
          rw [← hb, hi]
          have : decide (i < xs.length) = true := by simp; omega
          rw [this]
          rfl
        · simp at h3
          show _ = _
          unfold bsOk
          rw [← hb]
          have : decide (i < xs.length) = false := by simp; omega
          rw [this]
          rfl) ⟨(0, xs.length), Nat.zero_le _, Nat.le_refl _, rfl⟩
  · exact h.elim
theorem h72 : G1Ok Try.prog 72 g72 := by
  intro args obs k h
  unfold g72 at h
  split at h
  · rename_i k xs t
    obtain ⟨hlen, h⟩ := br_and h
    simp at hlen
    refine ⟨_, ctr_fn ok0 hg72 Try.func72 (by kernel_rfl) (by kernel_rfl) (by kernel_rfl) fun C => ?_, h⟩
    rw [e72]
    exact loopR okf72 hg72 (ι := {i : Nat // i ≤ xs.length ∧ lnf xs t i (xs.length - i) = lnAt xs t}) (fun i => st72 xs t i.1) (fun i => xs.length - i.1) (fun ⟨i, h0, hb⟩ => by
      show evP E72 G72 _ (lp72 2) (st72 xs t i) (rk72 _ _ 2 _)
      rw [b72]
      have hw1 : IntKind.i64.wrap ((i : Int) + 1) = ((i + 1 : Nat) : Int) := by rw [wrap_id (by omega) (by omega)]; omega
      rw [hw1]
      have hi : ((i : Int)).toNat = i := by omega
      refine br_intro (fun h2 => ?_) (fun h2 => ?_)
      · simp at h2
        have e1 : xs.length - i = (xs.length - (i + 1)) + 1 := by omega
        rw [e1, lnf] at hb
        refine br_intro (fun _ => ?_) (fun h3 => by simp at h3; omega)
        refine br_intro (fun h3 => ?_) (fun h3 => ?_)
        · have hp : (at3 xs i).2.1 < t := by rw [hi] at h3; exact of_decide_eq_true h3
          rw [if_pos hp] at hb
          exact ⟨⟨i + 1, by omega, hb⟩, rfl, by show xs.length - (i + 1) < xs.length - i; omega⟩
        · have hp : ¬ (at3 xs i).2.1 < t := by rw [hi] at h3; exact of_decide_eq_false h3
          rw [if_neg hp] at hb
          refine br_intro (fun _ => ?_) (fun h4 => by simp at h4; omega)
          refine br_intro (fun _ => ?_) (fun h4 => by simp at h4; omega)
          show _ = _
          unfold lnOk
          rw [← hb, hi]
          have : decide (i < xs.length) = true := by simp; omega
          rw [this]
          rfl
      · simp at h2
        have e1 : xs.length - i = 0 := by omega
        rw [e1, lnf] at hb
        refine br_intro (fun h3 => ?_) (fun h3 => ?_)
        · simp at h3; omega
        · show _ = _
          unfold lnOk
          rw [← hb]
          have : decide (i < xs.length) = false := by simp; omega
          rw [this]
          rfl) ⟨0, Nat.zero_le _, rfl⟩
  · exact h.elim
noncomputable def E73 : Env := E0.of Try.f73
noncomputable def G73 : Gk := gk [(121, g121)]
noncomputable def lp73 (n : Nat) : Code := (loopOf n (codeOf Try.f73)).getD .skip
noncomputable def ct73 (L : Lp) (R : Option Res → Prop) (n : Nat) : Kt := contOf E73 G73 L n (codeOf Try.f73) (endK E73 Try.f73.results.toList R)
noncomputable def rk73 (L : Lp) (R : Option Res → Prop) (n : Nat) (N : St → Prop) : Kt := rk (jof E73 (lp73 n)) N (ct73 L R n)
noncomputable def LOOP73 (L : Lp) (R : Option Res → Prop) (n : Nat) (st : St) : Prop := L (lp73 n) st (ct73 L R n)
theorem hg73 : HG Try.prog G73 := (hg_cons h121 hg_nil)
theorem okf73 : Ok Try.prog E73 := ok0.of Try.f73
theorem e73 (L : Lp) (R : Option Res → Prop) (xs : List (Elem k3)) (t : Int) : (bodyP E0 G73 L Try.f73 [.rsl k3 xs, .val (.int .i64 t)] [] R) = (
    br (decide (xs.length ≤ 1048576))
      (R
        (some
          { av := AV.tup [AV.val (Value.int IntKind.i64 (↑(bsAt xs t) : Int)), AV.val (Value.bool (bsOk xs t))], obs := [],
            outs := [] }))
      False) := by kernel_rfl
theorem h73 : G1Ok Try.prog 73 g73 := by
  intro args obs k h
  unfold g73 at h
  split at h
  · rename_i k xs t
    obtain ⟨hlen, h⟩ := br_and h
    refine ⟨_, ctr_fn ok0 hg73 Try.func73 (by kernel_rfl) (by kernel_rfl) (by kernel_rfl) fun C => ?_, h⟩
    rw [e73]
    exact br_intro (fun _ => rfl) (fun h => by rw [hlen] at h; cases h)
  · exact h.elim
noncomputable def E28 : Env := E0.of Try.f28
noncomputable def G28 : Gk := gk [(72, g72), (24, g26)]
noncomputable def lp28 (n : Nat) : Code := (loopOf n (codeOf Try.f28)).getD .skip
noncomputable def ct28 (L : Lp) (R : Option Res → Prop) (n : Nat) : Kt := contOf E28 G28 L n (codeOf Try.f28) (endK E28 Try.f28.results.toList R)
noncomputable def rk28 (L : Lp) (R : Option Res → Prop) (n : Nat) (N : St → Prop) : Kt := rk (jof E28 (lp28 n)) N (ct28 L R n)
noncomputable def LOOP28 (L : Lp) (R : Option Res → Prop) (n : Nat) (st : St) : Prop := L (lp28 n) st (ct28 L R n)
theorem hg28 : HG Try.prog G28 := (hg_cons h72 (hg_cons h24 hg_nil))
theorem okf28 : Ok Try.prog E28 := ok0.of Try.f28
theorem e28 (L : Lp) (R : Option Res → Prop) (xs : List (Elem k3)) (t : Int) : (bodyP E0 G28 L Try.f28 [.rsl k3 xs, .val (.int .i64 t)] [] R) = (
    br (decide (xs.length ≤ 1048576))
      (br (decide (xs.length ≤ 1048576))
        (br (!ddtOk xs) (R (some { av := AV.val (Value.int IntKind.i64 0), obs := [], outs := [] }))
          (br (!lnOk xs t) (R (some { av := AV.val (Value.int IntKind.i64 0), obs := [], outs := [] }))
            (br (decide (0 ≤ (↑(lnAt xs t) : Int) ∧ (↑(lnAt xs t) : Int) < (↑xs.length : Int)))
              (R
                (some
                  {
                    av :=
                      AV.val
                        (Value.int IntKind.i64
                          (xs.getD (↑(lnAt xs t) : Int).toNat
                                  (edflt [CK.int IntKind.i64, CK.int IntKind.i64, CK.int IntKind.i64])).snd.snd.fst),
                    obs := [], outs := [] }))
              False)))
        False)
      False) := by kernel_rfl
noncomputable def E29 : Env := E0.of Try.f29
noncomputable def G29 : Gk := gk [(26, g26), (73, g73)]
noncomputable def lp29 (n : Nat) : Code := (loopOf n (codeOf Try.f29)).getD .skip
noncomputable def ct29 (L : Lp) (R : Option Res → Prop) (n : Nat) : Kt := contOf E29 G29 L n (codeOf Try.f29) (endK E29 Try.f29.results.toList R)
noncomputable def rk29 (L : Lp) (R : Option Res → Prop) (n : Nat) (N : St → Prop) : Kt := rk (jof E29 (lp29 n)) N (ct29 L R n)
noncomputable def LOOP29 (L : Lp) (R : Option Res → Prop) (n : Nat) (st : St) : Prop := L (lp29 n) st (ct29 L R n)
theorem hg29 : HG Try.prog G29 := (hg_cons h26 (hg_cons h73 hg_nil))
theorem okf29 : Ok Try.prog E29 := ok0.of Try.f29
theorem e29 (L : Lp) (R : Option Res → Prop) (xs : List (Elem k3)) (t : Int) : (bodyP E0 G29 L Try.f29 [.rsl k3 xs, .val (.int .i64 t)] [] R) = (
    br (decide (xs.length ≤ 1048576))
      (br (!ddtOk xs) (R (some { av := AV.val (Value.int IntKind.i64 0), obs := [], outs := [] }))
        (br (decide (xs.length ≤ 1048576))
          (br (!bsOk xs t) (R (some { av := AV.val (Value.int IntKind.i64 0), obs := [], outs := [] }))
            (br (decide (0 ≤ (↑(bsAt xs t) : Int) ∧ (↑(bsAt xs t) : Int) < (↑xs.length : Int)))
              (R
                (some
                  {
                    av :=
                      AV.val
                        (Value.int IntKind.i64
                          (xs.getD (↑(bsAt xs t) : Int).toNat
                                  (edflt [CK.int IntKind.i64, CK.int IntKind.i64, CK.int IntKind.i64])).snd.snd.fst),
                    obs := [], outs := [] }))
              False))
          False))
      False) := by kernel_rfl
end Go.Proofs.Ytjhjhkphcemcmaa.Ev
