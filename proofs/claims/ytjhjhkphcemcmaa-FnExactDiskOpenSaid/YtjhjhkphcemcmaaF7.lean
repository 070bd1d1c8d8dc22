/- Contracts for books: copies, equality. -/
import Derived.Test.YtjhjhkphcemcmaaF6
namespace Go.Proofs.Ytjhjhkphcemcmaa.Ev
open Go
set_option linter.unusedVariables false
set_option linter.unusedSimpArgs false
set_option maxRecDepth 100000
def g146 : G1
  | [.agg [.val (.string a0), .val (.string a1), .val (.string a2), .val (.string a3), .val (.string a4), .val (.string a5), .val (.string a6), .val (.string a7)]], [], k =>
    k ⟨s8 a0 a1 a2 a3 a4 a5 a6 a7, [], []⟩
  | _, _, _ => False
abbrev k8 : List CK := [.str, .str, .str, .str, .str, .str, .str, .str]
def g147 : G1
  | [.agg [.val (.string a0), .val (.string a1), .val (.string a2), .val (.string a3), .val (.string a4), .val (.string a5), .val (.string a6), .val (.string a7)], .agg [.val (.string b0), .val (.string b1), .val (.string b2), .val (.string b3), .val (.string b4), .val (.string b5), .val (.string b6), .val (.string b7)]], [], k =>
    k ⟨.val (.bool (elemEq k8 (a0, a1, a2, a3, a4, a5, a6, a7, ()) (b0, b1, b2, b3, b4, b5, b6, b7, ()))), [], []⟩
  | _, _, _ => False
def eqR (cs : List CK) (xs ys : List (Elem cs)) : Bool := eqL (elemEq cs) (edflt cs) xs ys
def g32 : G1
  | [.agg [.rsl [.str, .int .i64, .str, .str, .str, .str, .str, .str, .str, .str, .str] xs]], [], k => br (decide (xs.length ≤ 1048576)) (k ⟨.agg [.ows 0], [.row kb xs], []⟩) False
  | _, _, _ => False
def g34 : G1
  | [.agg [.rsl [.str, .int .i64, .str, .str, .str, .str, .str, .str, .str, .str, .str] xs], .agg [.rsl [.str, .int .i64, .str, .str, .str, .str, .str, .str, .str, .str, .str] ys]], [], k => br (decide (xs.length ≤ 1048576)) (k ⟨.val (.bool (eqR kb xs ys)), [], []⟩) False
  | _, _, _ => False
theorem ckEq_self : ∀ (c : CK) (a : c.T), ckEq c a a = true
  | .int _, a => by simp [ckEq]
  | .str, a => by simp [ckEq, strEq]
  | .bool, a => by simp [ckEq]
theorem elemEq_self : ∀ (cs : List CK) (a : Elem cs), elemEq cs a a = true
  | [], _ => rfl
  | [c], a => ckEq_self c a.1
  | c :: c' :: cs, a => by
    show (ckEq c a.1 a.1 && elemEq (c' :: cs) a.2 a.2) = true
    rw [ckEq_self, elemEq_self]
    rfl
theorem eqR_self (cs : List CK) (xs : List (Elem cs)) : eqR cs xs xs = true := eqL_self (elemEq_self cs) xs
noncomputable def E146 : Env := E0.of Try.f146
noncomputable def G146 : Gk := gk []
noncomputable def lp146 (n : Nat) : Code := (loopOf n (codeOf Try.f146)).getD .skip
noncomputable def ct146 (L : Lp) (R : Option Res → Prop) (n : Nat) : Kt := contOf E146 G146 L n (codeOf Try.f146) (endK E146 Try.f146.results.toList R)
noncomputable def rk146 (L : Lp) (R : Option Res → Prop) (n : Nat) (N : St → Prop) : Kt := rk (jof E146 (lp146 n)) N (ct146 L R n)
noncomputable def LOOP146 (L : Lp) (R : Option Res → Prop) (n : Nat) (st : St) : Prop := L (lp146 n) st (ct146 L R n)
theorem hg146 : HG Try.prog G146 := hg_nil
theorem okf146 : Ok Try.prog E146 := ok0.of Try.f146
theorem e146 (L : Lp) (R : Option Res → Prop) (a0 a1 a2 a3 a4 a5 a6 a7 : ByteArray) : (bodyP E0 G146 L Try.f146 [s8 a0 a1 a2 a3 a4 a5 a6 a7] [] R) = (
    LOOP146 L R 3
      {
        tm :=
          [AV.agg
              [AV.val (Value.string a0), AV.val (Value.string a1), AV.val (Value.string a2), AV.val (Value.string a3),
                AV.val (Value.string a4), AV.val (Value.string a5), AV.val (Value.string a6), AV.val (Value.string a7)],
            AV.ptr 0 0, AV.ptr 1 0, AV.ptr 2 0, AV.val (Value.int IntKind.i64 0), AV.junk, AV.junk, AV.junk, AV.junk,
            AV.junk, AV.junk, AV.junk, AV.junk, AV.junk, AV.val (Value.tuple #[])],
        ob :=
          [(0,
              AO.box
                [AV.val (Value.string a0), AV.val (Value.string a1), AV.val (Value.string a2), AV.val (Value.string a3),
                  AV.val (Value.string a4), AV.val (Value.string a5), AV.val (Value.string a6), AV.val (Value.string a7)]),
            (1,
              AO.box
                [AV.val (Value.string ByteArray.empty), AV.val (Value.string ByteArray.empty),
                  AV.val (Value.string ByteArray.empty), AV.val (Value.string ByteArray.empty),
                  AV.val (Value.string ByteArray.empty), AV.val (Value.string ByteArray.empty),
                  AV.val (Value.string ByteArray.empty), AV.val (Value.string ByteArray.empty)]),
            (2,
              AO.box
                [AV.val (Value.string ByteArray.empty), AV.val (Value.string ByteArray.empty),
                  AV.val (Value.string ByteArray.empty), AV.val (Value.string ByteArray.empty),
                  AV.val (Value.string ByteArray.empty), AV.val (Value.string ByteArray.empty),
                  AV.val (Value.string ByteArray.empty), AV.val (Value.string ByteArray.empty)])],
        nx := 1000000, ps := [] }) := by kernel_rfl
def st146 (a0 a1 a2 a3 a4 a5 a6 a7 : ByteArray) (i : Int) (b0 b1 b2 b3 b4 b5 b6 b7 : ByteArray) : St :=
  ⟨[AV.agg [AV.val (Value.string a0), AV.val (Value.string a1), AV.val (Value.string a2), AV.val (Value.string a3), AV.val (Value.string a4), AV.val (Value.string a5), AV.val (Value.string a6), AV.val (Value.string a7)], AV.ptr 0 0, AV.ptr 1 0, AV.ptr 2 0, .val (.int .i64 i), AV.junk, AV.junk, AV.junk, AV.junk, AV.junk, AV.junk, AV.junk, AV.junk, AV.junk, AV.val (Value.tuple #[])],
    [(0, AO.box [AV.val (Value.string a0), AV.val (Value.string a1), AV.val (Value.string a2), AV.val (Value.string a3), AV.val (Value.string a4), AV.val (Value.string a5), AV.val (Value.string a6), AV.val (Value.string a7)]), (1, AO.box [AV.val (Value.string ByteArray.empty), AV.val (Value.string ByteArray.empty), AV.val (Value.string ByteArray.empty), AV.val (Value.string ByteArray.empty), AV.val (Value.string ByteArray.empty), AV.val (Value.string ByteArray.empty), AV.val (Value.string ByteArray.empty), AV.val (Value.string ByteArray.empty)]), (2, .box [.val (.string b0), .val (.string b1), .val (.string b2), .val (.string b3), .val (.string b4), .val (.string b5), .val (.string b6), .val (.string b7)])], 1000000, []⟩
theorem b146_0 (L : Lp) (R : Option Res → Prop) (N : St → Prop) (a0 a1 a2 a3 a4 a5 a6 a7 : ByteArray) : (evP E146 G146 L (lp146 3) (st146 a0 a1 a2 a3 a4 a5 a6 a7 0 ByteArray.empty ByteArray.empty ByteArray.empty ByteArray.empty ByteArray.empty ByteArray.empty ByteArray.empty ByteArray.empty) (rk146 L R 3 N)) = (
    N
      {
        tm :=
          [AV.agg
              [AV.val (Value.string a0), AV.val (Value.string a1), AV.val (Value.string a2), AV.val (Value.string a3),
                AV.val (Value.string a4), AV.val (Value.string a5), AV.val (Value.string a6), AV.val (Value.string a7)],
            AV.ptr 0 0, AV.ptr 1 0, AV.ptr 2 0, AV.val (Value.int IntKind.i64 1), AV.junk, AV.junk, AV.junk, AV.junk,
            AV.junk, AV.junk, AV.junk, AV.junk, AV.junk, AV.val (Value.tuple #[])],
        ob :=
          [(0,
              AO.box
                [AV.val (Value.string a0), AV.val (Value.string a1), AV.val (Value.string a2), AV.val (Value.string a3),
                  AV.val (Value.string a4), AV.val (Value.string a5), AV.val (Value.string a6), AV.val (Value.string a7)]),
            (1,
              AO.box
                [AV.val (Value.string ByteArray.empty), AV.val (Value.string ByteArray.empty),
                  AV.val (Value.string ByteArray.empty), AV.val (Value.string ByteArray.empty),
                  AV.val (Value.string ByteArray.empty), AV.val (Value.string ByteArray.empty),
                  AV.val (Value.string ByteArray.empty), AV.val (Value.string ByteArray.empty)]),
            (2,
              AO.box
                [AV.val (Value.string a0), AV.val (Value.string ByteArray.empty), AV.val (Value.string ByteArray.empty),
                  AV.val (Value.string ByteArray.empty), AV.val (Value.string ByteArray.empty),
                  AV.val (Value.string ByteArray.empty), AV.val (Value.string ByteArray.empty),
                  AV.val (Value.string ByteArray.empty)])],
        nx := 1000000, ps := [] }) := by kernel_rfl
theorem b146_1 (L : Lp) (R : Option Res → Prop) (N : St → Prop) (a0 a1 a2 a3 a4 a5 a6 a7 : ByteArray) : (evP E146 G146 L (lp146 3) (st146 a0 a1 a2 a3 a4 a5 a6 a7 1 a0 ByteArray.empty ByteArray.empty ByteArray.empty ByteArray.empty ByteArray.empty ByteArray.empty ByteArray.empty) (rk146 L R 3 N)) = (
    N
      {
        tm :=
          [AV.agg
              [AV.val (Value.string a0), AV.val (Value.string a1), AV.val (Value.string a2), AV.val (Value.string a3),
                AV.val (Value.string a4), AV.val (Value.string a5), AV.val (Value.string a6), AV.val (Value.string a7)],
            AV.ptr 0 0, AV.ptr 1 0, AV.ptr 2 0, AV.val (Value.int IntKind.i64 2), AV.junk, AV.junk, AV.junk, AV.junk,
            AV.junk, AV.junk, AV.junk, AV.junk, AV.junk, AV.val (Value.tuple #[])],
        ob :=
          [(0,
              AO.box
                [AV.val (Value.string a0), AV.val (Value.string a1), AV.val (Value.string a2), AV.val (Value.string a3),
                  AV.val (Value.string a4), AV.val (Value.string a5), AV.val (Value.string a6), AV.val (Value.string a7)]),
            (1,
              AO.box
                [AV.val (Value.string ByteArray.empty), AV.val (Value.string ByteArray.empty),
                  AV.val (Value.string ByteArray.empty), AV.val (Value.string ByteArray.empty),
                  AV.val (Value.string ByteArray.empty), AV.val (Value.string ByteArray.empty),
                  AV.val (Value.string ByteArray.empty), AV.val (Value.string ByteArray.empty)]),
            (2,
              AO.box
                [AV.val (Value.string a0), AV.val (Value.string a1), AV.val (Value.string ByteArray.empty),
                  AV.val (Value.string ByteArray.empty), AV.val (Value.string ByteArray.empty),
                  AV.val (Value.string ByteArray.empty), AV.val (Value.string ByteArray.empty),
                  AV.val (Value.string ByteArray.empty)])],
        nx := 1000000, ps := [] }) := by kernel_rfl
theorem b146_2 (L : Lp) (R : Option Res → Prop) (N : St → Prop) (a0 a1 a2 a3 a4 a5 a6 a7 : ByteArray) : (evP E146 G146 L (lp146 3) (st146 a0 a1 a2 a3 a4 a5 a6 a7 2 a0 a1 ByteArray.empty ByteArray.empty ByteArray.empty ByteArray.empty ByteArray.empty ByteArray.empty) (rk146 L R 3 N)) = (
    N
      {
        tm :=
          [AV.agg
              [AV.val (Value.string a0), AV.val (Value.string a1), AV.val (Value.string a2), AV.val (Value.string a3),
                AV.val (Value.string a4), AV.val (Value.string a5), AV.val (Value.string a6), AV.val (Value.string a7)],
            AV.ptr 0 0, AV.ptr 1 0, AV.ptr 2 0, AV.val (Value.int IntKind.i64 3), AV.junk, AV.junk, AV.junk, AV.junk,
            AV.junk, AV.junk, AV.junk, AV.junk, AV.junk, AV.val (Value.tuple #[])],
        ob :=
          [(0,
              AO.box
                [AV.val (Value.string a0), AV.val (Value.string a1), AV.val (Value.string a2), AV.val (Value.string a3),
                  AV.val (Value.string a4), AV.val (Value.string a5), AV.val (Value.string a6), AV.val (Value.string a7)]),
            (1,
              AO.box
                [AV.val (Value.string ByteArray.empty), AV.val (Value.string ByteArray.empty),
                  AV.val (Value.string ByteArray.empty), AV.val (Value.string ByteArray.empty),
                  AV.val (Value.string ByteArray.empty), AV.val (Value.string ByteArray.empty),
                  AV.val (Value.string ByteArray.empty), AV.val (Value.string ByteArray.empty)]),
            (2,
              AO.box
                [AV.val (Value.string a0), AV.val (Value.string a1), AV.val (Value.string a2),
                  AV.val (Value.string ByteArray.empty), AV.val (Value.string ByteArray.empty),
                  AV.val (Value.string ByteArray.empty), AV.val (Value.string ByteArray.empty),
                  AV.val (Value.string ByteArray.empty)])],
        nx := 1000000, ps := [] }) := by kernel_rfl
theorem b146_3 (L : Lp) (R : Option Res → Prop) (N : St → Prop) (a0 a1 a2 a3 a4 a5 a6 a7 : ByteArray) : (evP E146 G146 L (lp146 3) (st146 a0 a1 a2 a3 a4 a5 a6 a7 3 a0 a1 a2 ByteArray.empty ByteArray.empty ByteArray.empty ByteArray.empty ByteArray.empty) (rk146 L R 3 N)) = (
    N
      {
        tm :=
          [AV.agg
              [AV.val (Value.string a0), AV.val (Value.string a1), AV.val (Value.string a2), AV.val (Value.string a3),
                AV.val (Value.string a4), AV.val (Value.string a5), AV.val (Value.string a6), AV.val (Value.string a7)],
            AV.ptr 0 0, AV.ptr 1 0, AV.ptr 2 0, AV.val (Value.int IntKind.i64 4), AV.junk, AV.junk, AV.junk, AV.junk,
            AV.junk, AV.junk, AV.junk, AV.junk, AV.junk, AV.val (Value.tuple #[])],
        ob :=
          [(0,
              AO.box
                [AV.val (Value.string a0), AV.val (Value.string a1), AV.val (Value.string a2), AV.val (Value.string a3),
                  AV.val (Value.string a4), AV.val (Value.string a5), AV.val (Value.string a6), AV.val (Value.string a7)]),
            (1,
              AO.box
                [AV.val (Value.string ByteArray.empty), AV.val (Value.string ByteArray.empty),
                  AV.val (Value.string ByteArray.empty), AV.val (Value.string ByteArray.empty),
                  AV.val (Value.string ByteArray.empty), AV.val (Value.string ByteArray.empty),
                  AV.val (Value.string ByteArray.empty), AV.val (Value.string ByteArray.empty)]),
            (2,
              AO.box
                [AV.val (Value.string a0), AV.val (Value.string a1), AV.val (Value.string a2), AV.val (Value.string a3),
                  AV.val (Value.string ByteArray.empty), AV.val (Value.string ByteArray.empty),
                  AV.val (Value.string ByteArray.empty), AV.val (Value.string ByteArray.empty)])],
        nx := 1000000, ps := [] }) := by kernel_rfl
theorem b146_4 (L : Lp) (R : Option Res → Prop) (N : St → Prop) (a0 a1 a2 a3 a4 a5 a6 a7 : ByteArray) : (evP E146 G146 L (lp146 3) (st146 a0 a1 a2 a3 a4 a5 a6 a7 4 a0 a1 a2 a3 ByteArray.empty ByteArray.empty ByteArray.empty ByteArray.empty) (rk146 L R 3 N)) = (
    N
      {
        tm :=
          [AV.agg
              [AV.val (Value.string a0), AV.val (Value.string a1), AV.val (Value.string a2), AV.val (Value.string a3),
                AV.val (Value.string a4), AV.val (Value.string a5), AV.val (Value.string a6), AV.val (Value.string a7)],
            AV.ptr 0 0, AV.ptr 1 0, AV.ptr 2 0, AV.val (Value.int IntKind.i64 5), AV.junk, AV.junk, AV.junk, AV.junk,
            AV.junk, AV.junk, AV.junk, AV.junk, AV.junk, AV.val (Value.tuple #[])],
        ob :=
          [(0,
              AO.box
                [AV.val (Value.string a0), AV.val (Value.string a1), AV.val (Value.string a2), AV.val (Value.string a3),
                  AV.val (Value.string a4), AV.val (Value.string a5), AV.val (Value.string a6), AV.val (Value.string a7)]),
            (1,
              AO.box
                [AV.val (Value.string ByteArray.empty), AV.val (Value.string ByteArray.empty),
                  AV.val (Value.string ByteArray.empty), AV.val (Value.string ByteArray.empty),
                  AV.val (Value.string ByteArray.empty), AV.val (Value.string ByteArray.empty),
                  AV.val (Value.string ByteArray.empty), AV.val (Value.string ByteArray.empty)]),
            (2,
              AO.box
                [AV.val (Value.string a0), AV.val (Value.string a1), AV.val (Value.string a2), AV.val (Value.string a3),
                  AV.val (Value.string a4), AV.val (Value.string ByteArray.empty), AV.val (Value.string ByteArray.empty),
                  AV.val (Value.string ByteArray.empty)])],
        nx := 1000000, ps := [] }) := by kernel_rfl
theorem b146_5 (L : Lp) (R : Option Res → Prop) (N : St → Prop) (a0 a1 a2 a3 a4 a5 a6 a7 : ByteArray) : (evP E146 G146 L (lp146 3) (st146 a0 a1 a2 a3 a4 a5 a6 a7 5 a0 a1 a2 a3 a4 ByteArray.empty ByteArray.empty ByteArray.empty) (rk146 L R 3 N)) = (
    N
      {
        tm :=
          [AV.agg
              [AV.val (Value.string a0), AV.val (Value.string a1), AV.val (Value.string a2), AV.val (Value.string a3),
                AV.val (Value.string a4), AV.val (Value.string a5), AV.val (Value.string a6), AV.val (Value.string a7)],
            AV.ptr 0 0, AV.ptr 1 0, AV.ptr 2 0, AV.val (Value.int IntKind.i64 6), AV.junk, AV.junk, AV.junk, AV.junk,
            AV.junk, AV.junk, AV.junk, AV.junk, AV.junk, AV.val (Value.tuple #[])],
        ob :=
          [(0,
              AO.box
                [AV.val (Value.string a0), AV.val (Value.string a1), AV.val (Value.string a2), AV.val (Value.string a3),
                  AV.val (Value.string a4), AV.val (Value.string a5), AV.val (Value.string a6), AV.val (Value.string a7)]),
            (1,
              AO.box
                [AV.val (Value.string ByteArray.empty), AV.val (Value.string ByteArray.empty),
                  AV.val (Value.string ByteArray.empty), AV.val (Value.string ByteArray.empty),
                  AV.val (Value.string ByteArray.empty), AV.val (Value.string ByteArray.empty),
                  AV.val (Value.string ByteArray.empty), AV.val (Value.string ByteArray.empty)]),
            (2,
              AO.box
                [AV.val (Value.string a0), AV.val (Value.string a1), AV.val (Value.string a2), AV.val (Value.string a3),
                  AV.val (Value.string a4), AV.val (Value.string a5), AV.val (Value.string ByteArray.empty),
                  AV.val (Value.string ByteArray.empty)])],
        nx := 1000000, ps := [] }) := by kernel_rfl
theorem b146_6 (L : Lp) (R : Option Res → Prop) (N : St → Prop) (a0 a1 a2 a3 a4 a5 a6 a7 : ByteArray) : (evP E146 G146 L (lp146 3) (st146 a0 a1 a2 a3 a4 a5 a6 a7 6 a0 a1 a2 a3 a4 a5 ByteArray.empty ByteArray.empty) (rk146 L R 3 N)) = (
    N
      {
        tm :=
          [AV.agg
              [AV.val (Value.string a0), AV.val (Value.string a1), AV.val (Value.string a2), AV.val (Value.string a3),
                AV.val (Value.string a4), AV.val (Value.string a5), AV.val (Value.string a6), AV.val (Value.string a7)],
            AV.ptr 0 0, AV.ptr 1 0, AV.ptr 2 0, AV.val (Value.int IntKind.i64 7), AV.junk, AV.junk, AV.junk, AV.junk,
            AV.junk, AV.junk, AV.junk, AV.junk, AV.junk, AV.val (Value.tuple #[])],
        ob :=
          [(0,
              AO.box
                [AV.val (Value.string a0), AV.val (Value.string a1), AV.val (Value.string a2), AV.val (Value.string a3),
                  AV.val (Value.string a4), AV.val (Value.string a5), AV.val (Value.string a6), AV.val (Value.string a7)]),
            (1,
              AO.box
                [AV.val (Value.string ByteArray.empty), AV.val (Value.string ByteArray.empty),
                  AV.val (Value.string ByteArray.empty), AV.val (Value.string ByteArray.empty),
                  AV.val (Value.string ByteArray.empty), AV.val (Value.string ByteArray.empty),
                  AV.val (Value.string ByteArray.empty), AV.val (Value.string ByteArray.empty)]),
            (2,
              AO.box
                [AV.val (Value.string a0), AV.val (Value.string a1), AV.val (Value.string a2), AV.val (Value.string a3),
                  AV.val (Value.string a4), AV.val (Value.string a5), AV.val (Value.string a6),
                  AV.val (Value.string ByteArray.empty)])],
        nx := 1000000, ps := [] }) := by kernel_rfl
theorem b146_7 (L : Lp) (R : Option Res → Prop) (N : St → Prop) (a0 a1 a2 a3 a4 a5 a6 a7 : ByteArray) : (evP E146 G146 L (lp146 3) (st146 a0 a1 a2 a3 a4 a5 a6 a7 7 a0 a1 a2 a3 a4 a5 a6 ByteArray.empty) (rk146 L R 3 N)) = (
    N
      {
        tm :=
          [AV.agg
              [AV.val (Value.string a0), AV.val (Value.string a1), AV.val (Value.string a2), AV.val (Value.string a3),
                AV.val (Value.string a4), AV.val (Value.string a5), AV.val (Value.string a6), AV.val (Value.string a7)],
            AV.ptr 0 0, AV.ptr 1 0, AV.ptr 2 0, AV.val (Value.int IntKind.i64 8), AV.junk, AV.junk, AV.junk, AV.junk,
            AV.junk, AV.junk, AV.junk, AV.junk, AV.junk, AV.val (Value.tuple #[])],
        ob :=
          [(0,
              AO.box
                [AV.val (Value.string a0), AV.val (Value.string a1), AV.val (Value.string a2), AV.val (Value.string a3),
                  AV.val (Value.string a4), AV.val (Value.string a5), AV.val (Value.string a6), AV.val (Value.string a7)]),
            (1,
              AO.box
                [AV.val (Value.string ByteArray.empty), AV.val (Value.string ByteArray.empty),
                  AV.val (Value.string ByteArray.empty), AV.val (Value.string ByteArray.empty),
                  AV.val (Value.string ByteArray.empty), AV.val (Value.string ByteArray.empty),
                  AV.val (Value.string ByteArray.empty), AV.val (Value.string ByteArray.empty)]),
            (2,
              AO.box
                [AV.val (Value.string a0), AV.val (Value.string a1), AV.val (Value.string a2), AV.val (Value.string a3),
                  AV.val (Value.string a4), AV.val (Value.string a5), AV.val (Value.string a6), AV.val (Value.string a7)])],
        nx := 1000000, ps := [] }) := by kernel_rfl
theorem b146_8 (L : Lp) (R : Option Res → Prop) (N : St → Prop) (a0 a1 a2 a3 a4 a5 a6 a7 : ByteArray) : (evP E146 G146 L (lp146 3) (st146 a0 a1 a2 a3 a4 a5 a6 a7 8 a0 a1 a2 a3 a4 a5 a6 a7) (rk146 L R 3 N)) = (
    R
      (some
        {
          av :=
            AV.agg
              [AV.val (Value.string a0), AV.val (Value.string a1), AV.val (Value.string a2), AV.val (Value.string a3),
                AV.val (Value.string a4), AV.val (Value.string a5), AV.val (Value.string a6), AV.val (Value.string a7)],
          obs := [], outs := [] })) := by kernel_rfl
def sq146 (a0 a1 a2 a3 a4 a5 a6 a7 : ByteArray) : Nat → St
  | 0 => st146 a0 a1 a2 a3 a4 a5 a6 a7 0 ByteArray.empty ByteArray.empty ByteArray.empty ByteArray.empty ByteArray.empty ByteArray.empty ByteArray.empty ByteArray.empty
  | 1 => st146 a0 a1 a2 a3 a4 a5 a6 a7 1 a0 ByteArray.empty ByteArray.empty ByteArray.empty ByteArray.empty ByteArray.empty ByteArray.empty ByteArray.empty
  | 2 => st146 a0 a1 a2 a3 a4 a5 a6 a7 2 a0 a1 ByteArray.empty ByteArray.empty ByteArray.empty ByteArray.empty ByteArray.empty ByteArray.empty
  | 3 => st146 a0 a1 a2 a3 a4 a5 a6 a7 3 a0 a1 a2 ByteArray.empty ByteArray.empty ByteArray.empty ByteArray.empty ByteArray.empty
  | 4 => st146 a0 a1 a2 a3 a4 a5 a6 a7 4 a0 a1 a2 a3 ByteArray.empty ByteArray.empty ByteArray.empty ByteArray.empty
  | 5 => st146 a0 a1 a2 a3 a4 a5 a6 a7 5 a0 a1 a2 a3 a4 ByteArray.empty ByteArray.empty ByteArray.empty
  | 6 => st146 a0 a1 a2 a3 a4 a5 a6 a7 6 a0 a1 a2 a3 a4 a5 ByteArray.empty ByteArray.empty
  | 7 => st146 a0 a1 a2 a3 a4 a5 a6 a7 7 a0 a1 a2 a3 a4 a5 a6 ByteArray.empty
  | _ => st146 a0 a1 a2 a3 a4 a5 a6 a7 8 a0 a1 a2 a3 a4 a5 a6 a7
theorem h146 : G1Ok Try.prog 146 g146 := by
  intro args obs k h
  unfold g146 at h
  split at h
  · rename_i k a0 a1 a2 a3 a4 a5 a6 a7
    refine ⟨_, ctr_fn ok0 hg146 Try.func146 (by kernel_rfl) (by kernel_rfl) (by kernel_rfl) fun C => ?_, h⟩
    rw [e146]
    refine loopSeq okf146 hg146 (sq146 a0 a1 a2 a3 a4 a5 a6 a7) 8 (fun N i hi next => ?_) (fun N => ?_)
    · have cs : i = 0 ∨ i = 1 ∨ i = 2 ∨ i = 3 ∨ i = 4 ∨ i = 5 ∨ i = 6 ∨ i = 7 := by omega
      rcases cs with rfl | rfl | rfl | rfl | rfl | rfl | rfl | rfl
      · show evP E146 G146 _ (lp146 3) (st146 a0 a1 a2 a3 a4 a5 a6 a7 0 ByteArray.empty ByteArray.empty ByteArray.empty ByteArray.empty ByteArray.empty ByteArray.empty ByteArray.empty ByteArray.empty) (rk146 _ _ 3 _)
        rw [b146_0]
        exact next
      · show evP E146 G146 _ (lp146 3) (st146 a0 a1 a2 a3 a4 a5 a6 a7 1 a0 ByteArray.empty ByteArray.empty ByteArray.empty ByteArray.empty ByteArray.empty ByteArray.empty ByteArray.empty) (rk146 _ _ 3 _)
        rw [b146_1]
        exact next
      · show evP E146 G146 _ (lp146 3) (st146 a0 a1 a2 a3 a4 a5 a6 a7 2 a0 a1 ByteArray.empty ByteArray.empty ByteArray.empty ByteArray.empty ByteArray.empty ByteArray.empty) (rk146 _ _ 3 _)
        rw [b146_2]
        exact next
      · show evP E146 G146 _ (lp146 3) (st146 a0 a1 a2 a3 a4 a5 a6 a7 3 a0 a1 a2 ByteArray.empty ByteArray.empty ByteArray.empty ByteArray.empty ByteArray.empty) (rk146 _ _ 3 _)
        rw [b146_3]
        exact next
      · show evP E146 G146 _ (lp146 3) (st146 a0 a1 a2 a3 a4 a5 a6 a7 4 a0 a1 a2 a3 ByteArray.empty ByteArray.empty ByteArray.empty ByteArray.empty) (rk146 _ _ 3 _)
        rw [b146_4]
        exact next
      · show evP E146 G146 _ (lp146 3) (st146 a0 a1 a2 a3 a4 a5 a6 a7 5 a0 a1 a2 a3 a4 ByteArray.empty ByteArray.empty ByteArray.empty) (rk146 _ _ 3 _)
        rw [b146_5]
        exact next
      · show evP E146 G146 _ (lp146 3) (st146 a0 a1 a2 a3 a4 a5 a6 a7 6 a0 a1 a2 a3 a4 a5 ByteArray.empty ByteArray.empty) (rk146 _ _ 3 _)
        rw [b146_6]
        exact next
      · show evP E146 G146 _ (lp146 3) (st146 a0 a1 a2 a3 a4 a5 a6 a7 7 a0 a1 a2 a3 a4 a5 a6 ByteArray.empty) (rk146 _ _ 3 _)
        rw [b146_7]
        exact next
    · show evP E146 G146 _ (lp146 3) (st146 a0 a1 a2 a3 a4 a5 a6 a7 8 a0 a1 a2 a3 a4 a5 a6 a7) (rk146 _ _ 3 _)
      rw [b146_8]
  · exact h.elim
def g124 : G1
  | [.agg [.val (.string a0), .val (.int .i64 a1), .val (.string a2), .val (.string a3), .val (.string a4), .val (.string a5), .val (.string a6), .val (.string a7), .val (.string a8), .val (.string a9), .val (.string a10)]], [], k => k ⟨.agg [.val (.string a0), .val (.int .i64 a1), .val (.string a2), .val (.string a3), .val (.string a4), .val (.string a5), .val (.string a6), .val (.string a7), .val (.string a8), .val (.string a9), .val (.string a10)], [], []⟩
  | _, _, _ => False
noncomputable def E124 : Env := E0.of Try.f124
noncomputable def G124 : Gk := gk [(146, g146)]
noncomputable def lp124 (n : Nat) : Code := (loopOf n (codeOf Try.f124)).getD .skip
noncomputable def ct124 (L : Lp) (R : Option Res → Prop) (n : Nat) : Kt := contOf E124 G124 L n (codeOf Try.f124) (endK E124 Try.f124.results.toList R)
noncomputable def rk124 (L : Lp) (R : Option Res → Prop) (n : Nat) (N : St → Prop) : Kt := rk (jof E124 (lp124 n)) N (ct124 L R n)
noncomputable def LOOP124 (L : Lp) (R : Option Res → Prop) (n : Nat) (st : St) : Prop := L (lp124 n) st (ct124 L R n)
theorem hg124 : HG Try.prog G124 := (hg_cons h146 hg_nil)
theorem okf124 : Ok Try.prog E124 := ok0.of Try.f124
theorem e124 (L : Lp) (R : Option Res → Prop) (a0 : ByteArray) (a1 : Int) (a2 : ByteArray) (a3 : ByteArray) (a4 : ByteArray) (a5 : ByteArray) (a6 : ByteArray) (a7 : ByteArray) (a8 : ByteArray) (a9 : ByteArray) (a10 : ByteArray) : (bodyP E0 G124 L Try.f124 [.agg [.val (.string a0), .val (.int .i64 a1), .val (.string a2), .val (.string a3), .val (.string a4), .val (.string a5), .val (.string a6), .val (.string a7), .val (.string a8), .val (.string a9), .val (.string a10)]] [] R) = (
    R
      (some
        {
          av :=
            AV.agg
              [AV.val (Value.string a0), AV.val (Value.int IntKind.i64 a1), AV.val (Value.string a2),
                AV.val (Value.string a3), AV.val (Value.string a4), AV.val (Value.string a5), AV.val (Value.string a6),
                AV.val (Value.string a7), AV.val (Value.string a8), AV.val (Value.string a9), AV.val (Value.string a10)],
          obs := [], outs := [] })) := by kernel_rfl
theorem h124 : G1Ok Try.prog 124 g124 := by
  intro args obs k h
  unfold g124 at h
  split at h
  · rename_i k a0 a1 a2 a3 a4 a5 a6 a7 a8 a9 a10
    refine ⟨_, ctr_fn ok0 hg124 Try.func124 (by kernel_rfl) (by kernel_rfl) (by kernel_rfl) fun C => ?_, h⟩
    rw [e124]
  · exact h.elim
def g75 : G1
  | [.rsl [.str, .int .i64, .str, .str, .str, .str, .str, .str, .str, .str, .str] xs], [], k => br (decide (xs.length ≤ 1048576)) (k ⟨.ows 0, [.row kb xs], []⟩) False
  | _, _, _ => False
noncomputable def E75 : Env := E0.of Try.f75
noncomputable def G75 : Gk := gk [(124, g124)]
noncomputable def lp75 (n : Nat) : Code := (loopOf n (codeOf Try.f75)).getD .skip
noncomputable def ct75 (L : Lp) (R : Option Res → Prop) (n : Nat) : Kt := contOf E75 G75 L n (codeOf Try.f75) (endK E75 Try.f75.results.toList R)
noncomputable def rk75 (L : Lp) (R : Option Res → Prop) (n : Nat) (N : St → Prop) : Kt := rk (jof E75 (lp75 n)) N (ct75 L R n)
noncomputable def LOOP75 (L : Lp) (R : Option Res → Prop) (n : Nat) (st : St) : Prop := L (lp75 n) st (ct75 L R n)
theorem hg75 : HG Try.prog G75 := (hg_cons h124 hg_nil)
theorem okf75 : Ok Try.prog E75 := ok0.of Try.f75
theorem e75 (L : Lp) (R : Option Res → Prop) (xs : List (Elem kb)) : (bodyP E0 G75 L Try.f75 [.rsl kb xs] [] R) = (
    br
      (decide
        (0 ≤ (↑xs.length : Int) ∧ (↑xs.length : Int) ≤ (↑xs.length : Int) ∧ 168 * (↑xs.length : Int) ≤ 281474976710656))
      (LOOP75 L R 3
        {
          tm :=
            [AV.rsl [CK.str, CK.int IntKind.i64, CK.str, CK.str, CK.str, CK.str, CK.str, CK.str, CK.str, CK.str, CK.str] xs,
              AV.val (Value.tuple #[]), AV.ows 0, AV.ows 1, AV.val (Value.int IntKind.i64 0),
              AV.rsl [CK.str, CK.int IntKind.i64, CK.str, CK.str, CK.str, CK.str, CK.str, CK.str, CK.str, CK.str, CK.str]
                xs,
              AV.val (Value.int IntKind.i64 (↑xs.length : Int)), AV.ows 1, AV.junk, AV.junk, AV.junk, AV.junk, AV.junk,
              AV.junk, AV.junk, AV.junk, AV.junk, AV.junk, AV.junk, AV.junk, AV.junk, AV.junk, AV.val (Value.tuple #[])],
          ob :=
            [(0,
                AO.row [CK.str, CK.int IntKind.i64, CK.str, CK.str, CK.str, CK.str, CK.str, CK.str, CK.str, CK.str, CK.str]
                  []),
              (1,
                AO.row [CK.str, CK.int IntKind.i64, CK.str, CK.str, CK.str, CK.str, CK.str, CK.str, CK.str, CK.str, CK.str]
                  (List.replicate (↑xs.length : Int).toNat
                    (edflt
                      [CK.str, CK.int IntKind.i64, CK.str, CK.str, CK.str, CK.str, CK.str, CK.str, CK.str, CK.str,
                        CK.str])))],
          nx := 1000000, ps := [] })
      False) := by kernel_rfl
def st75 (xs : List (Elem kb)) (i : Int) (ys : List (Elem kb)) : St :=
  ⟨[AV.rsl [CK.str, CK.int IntKind.i64, CK.str, CK.str, CK.str, CK.str, CK.str, CK.str, CK.str, CK.str, CK.str] xs, AV.val (Value.tuple #[]), AV.ows 0, AV.ows 1, .val (.int .i64 i), AV.rsl [CK.str, CK.int IntKind.i64, CK.str, CK.str, CK.str, CK.str, CK.str, CK.str, CK.str, CK.str, CK.str] xs, AV.val (Value.int IntKind.i64 (↑xs.length : Int)), AV.ows 1, AV.junk, AV.junk, AV.junk, AV.junk, AV.junk, AV.junk, AV.junk, AV.junk, AV.junk, AV.junk, AV.junk, AV.junk, AV.junk, AV.junk, AV.val (Value.tuple #[])],
    [(0, AO.row [CK.str, CK.int IntKind.i64, CK.str, CK.str, CK.str, CK.str, CK.str, CK.str, CK.str, CK.str, CK.str] []), (1, .row kb ys)], 1000000, []⟩
theorem b75 (L : Lp) (R : Option Res → Prop) (N : St → Prop) (xs : List (Elem kb)) (i : Int) (ys : List (Elem kb)) : (evP E75 G75 L (lp75 3) (st75 xs i ys) (rk75 L R 3 N)) = (
    br (decide (i < (↑xs.length : Int)))
      (br (decide (0 ≤ i ∧ i < (↑xs.length : Int)))
        (br (decide (0 ≤ i ∧ i < (↑ys.length : Int)))
          (N
            {
              tm :=
                [AV.rsl [CK.str, CK.int IntKind.i64, CK.str, CK.str, CK.str, CK.str, CK.str, CK.str, CK.str, CK.str, CK.str]
                    xs,
                  AV.val (Value.tuple #[]), AV.ows 0, AV.ows 1, AV.val (Value.int IntKind.i64 (IntKind.i64.wrap (i + 1))),
                  AV.rsl
                    [CK.str, CK.int IntKind.i64, CK.str, CK.str, CK.str, CK.str, CK.str, CK.str, CK.str, CK.str, CK.str] xs,
                  AV.val (Value.int IntKind.i64 (↑xs.length : Int)), AV.ows 1, AV.junk, AV.junk, AV.junk, AV.junk, AV.junk,
                  AV.junk, AV.junk, AV.junk, AV.junk, AV.junk, AV.junk, AV.junk, AV.junk, AV.junk,
                  AV.val (Value.tuple #[])],
              ob :=
                [(0,
                    AO.row
                      [CK.str, CK.int IntKind.i64, CK.str, CK.str, CK.str, CK.str, CK.str, CK.str, CK.str, CK.str, CK.str]
                      []),
                  (1,
                    AO.row
                      [CK.str, CK.int IntKind.i64, CK.str, CK.str, CK.str, CK.str, CK.str, CK.str, CK.str, CK.str, CK.str]
                      (ys.set i.toNat
                        (xs.getD i.toNat
                          (edflt
                            [CK.str, CK.int IntKind.i64, CK.str, CK.str, CK.str, CK.str, CK.str, CK.str, CK.str, CK.str,
                              CK.str]))))],
              nx := 1000000, ps := [] })
          False)
        False)
      (R
        (some
          { av := AV.ows 0,
            obs :=
              [AO.row [CK.str, CK.int IntKind.i64, CK.str, CK.str, CK.str, CK.str, CK.str, CK.str, CK.str, CK.str, CK.str]
                  ys],
            outs := [] }))) := by kernel_rfl
theorem h75 : G1Ok Try.prog 75 g75 := by
  intro args obs k h
  unfold g75 at h
  split at h
  · rename_i k xs
    obtain ⟨hlen, h⟩ := brd h
    refine ⟨_, ctr_fn ok0 hg75 Try.func75 (by kernel_rfl) (by kernel_rfl) (by kernel_rfl) fun C => ?_, h⟩
    rw [e75]
    refine br_yes ⟨by omega, by omega, by omega⟩ ?_
    exact loopUp okf75 hg75 (fun i ys => st75 xs i ys) xs.length (Cp xs) (fun N i ys hi hc next => by
      show evP E75 G75 _ (lp75 3) (st75 xs i ys) (rk75 _ _ 3 _)
      rw [b75, wrap_id (n := (i : Int) + 1) (by omega) (by omega), Int.toNat_natCast]
      have hl := hc.len
      refine br_dec (fun h2 => ?_) (fun h2 => ?_)
      · refine br_yes ⟨by omega, h2⟩ (br_yes ⟨by omega, by omega⟩ ?_)
        exact next (by omega) _ (hc.next (by omega))
      · show _ = _
        rw [hc.done (by omega)]) _ (Cp.zero xs _)
  · exact h.elim
noncomputable def E32 : Env := E0.of Try.f32
noncomputable def G32 : Gk := gk [(75, g75)]
noncomputable def lp32 (n : Nat) : Code := (loopOf n (codeOf Try.f32)).getD .skip
noncomputable def ct32 (L : Lp) (R : Option Res → Prop) (n : Nat) : Kt := contOf E32 G32 L n (codeOf Try.f32) (endK E32 Try.f32.results.toList R)
noncomputable def rk32 (L : Lp) (R : Option Res → Prop) (n : Nat) (N : St → Prop) : Kt := rk (jof E32 (lp32 n)) N (ct32 L R n)
noncomputable def LOOP32 (L : Lp) (R : Option Res → Prop) (n : Nat) (st : St) : Prop := L (lp32 n) st (ct32 L R n)
theorem hg32 : HG Try.prog G32 := (hg_cons h75 hg_nil)
theorem okf32 : Ok Try.prog E32 := ok0.of Try.f32
theorem e32 (L : Lp) (R : Option Res → Prop) (xs : List (Elem kb)) : (bodyP E0 G32 L Try.f32 [.agg [.rsl kb xs]] [] R) = (
    br (decide (xs.length ≤ 1048576))
      (R
        (some
          { av := AV.agg [AV.ows 0],
            obs :=
              [AO.row [CK.str, CK.int IntKind.i64, CK.str, CK.str, CK.str, CK.str, CK.str, CK.str, CK.str, CK.str, CK.str]
                  xs],
            outs := [] }))
      False) := by kernel_rfl
theorem h32 : G1Ok Try.prog 32 g32 := by
  intro args obs k h
  unfold g32 at h
  split at h
  · rename_i k xs
    obtain ⟨hlen, h⟩ := brd h
    refine ⟨_, ctr_fn ok0 hg32 Try.func32 (by kernel_rfl) (by kernel_rfl) (by kernel_rfl) fun C => ?_, h⟩
    rw [e32]
    exact br_yes hlen rfl
  · exact h.elim
noncomputable def E147 : Env := E0.of Try.f147
noncomputable def G147 : Gk := gk []
noncomputable def lp147 (n : Nat) : Code := (loopOf n (codeOf Try.f147)).getD .skip
noncomputable def ct147 (L : Lp) (R : Option Res → Prop) (n : Nat) : Kt := contOf E147 G147 L n (codeOf Try.f147) (endK E147 Try.f147.results.toList R)
noncomputable def rk147 (L : Lp) (R : Option Res → Prop) (n : Nat) (N : St → Prop) : Kt := rk (jof E147 (lp147 n)) N (ct147 L R n)
noncomputable def LOOP147 (L : Lp) (R : Option Res → Prop) (n : Nat) (st : St) : Prop := L (lp147 n) st (ct147 L R n)
theorem hg147 : HG Try.prog G147 := hg_nil
theorem okf147 : Ok Try.prog E147 := ok0.of Try.f147
theorem e147 (L : Lp) (R : Option Res → Prop) (a0 a1 a2 a3 a4 a5 a6 a7 b0 b1 b2 b3 b4 b5 b6 b7 : ByteArray) : (bodyP E0 G147 L Try.f147 [s8 a0 a1 a2 a3 a4 a5 a6 a7, s8 b0 b1 b2 b3 b4 b5 b6 b7] [] R) = (
    LOOP147 L R 2
      {
        tm :=
          [AV.agg
              [AV.val (Value.string a0), AV.val (Value.string a1), AV.val (Value.string a2), AV.val (Value.string a3),
                AV.val (Value.string a4), AV.val (Value.string a5), AV.val (Value.string a6), AV.val (Value.string a7)],
            AV.agg
              [AV.val (Value.string b0), AV.val (Value.string b1), AV.val (Value.string b2), AV.val (Value.string b3),
                AV.val (Value.string b4), AV.val (Value.string b5), AV.val (Value.string b6), AV.val (Value.string b7)],
            AV.ptr 0 0, AV.ptr 1 0, AV.val (Value.bool false), AV.val (Value.int IntKind.i64 0), AV.junk, AV.junk, AV.junk,
            AV.junk, AV.junk, AV.junk, AV.junk, AV.junk, AV.junk, AV.junk, AV.junk],
        ob :=
          [(0,
              AO.box
                [AV.val (Value.string a0), AV.val (Value.string a1), AV.val (Value.string a2), AV.val (Value.string a3),
                  AV.val (Value.string a4), AV.val (Value.string a5), AV.val (Value.string a6), AV.val (Value.string a7)]),
            (1,
              AO.box
                [AV.val (Value.string b0), AV.val (Value.string b1), AV.val (Value.string b2), AV.val (Value.string b3),
                  AV.val (Value.string b4), AV.val (Value.string b5), AV.val (Value.string b6), AV.val (Value.string b7)])],
        nx := 1000000, ps := [] }) := by kernel_rfl
def st147 (a0 a1 a2 a3 a4 a5 a6 a7 b0 b1 b2 b3 b4 b5 b6 b7 : ByteArray) (i : Int) : St :=
  ⟨[AV.agg [AV.val (Value.string a0), AV.val (Value.string a1), AV.val (Value.string a2), AV.val (Value.string a3), AV.val (Value.string a4), AV.val (Value.string a5), AV.val (Value.string a6), AV.val (Value.string a7)], AV.agg [AV.val (Value.string b0), AV.val (Value.string b1), AV.val (Value.string b2), AV.val (Value.string b3), AV.val (Value.string b4), AV.val (Value.string b5), AV.val (Value.string b6), AV.val (Value.string b7)], AV.ptr 0 0, AV.ptr 1 0, AV.val (Value.bool false), .val (.int .i64 i), AV.junk, AV.junk, AV.junk, AV.junk, AV.junk, AV.junk, AV.junk, AV.junk, AV.junk, AV.junk, AV.junk],
    [(0, AO.box [AV.val (Value.string a0), AV.val (Value.string a1), AV.val (Value.string a2), AV.val (Value.string a3), AV.val (Value.string a4), AV.val (Value.string a5), AV.val (Value.string a6), AV.val (Value.string a7)]), (1, AO.box [AV.val (Value.string b0), AV.val (Value.string b1), AV.val (Value.string b2), AV.val (Value.string b3), AV.val (Value.string b4), AV.val (Value.string b5), AV.val (Value.string b6), AV.val (Value.string b7)])], 1000000, []⟩
theorem b147_0 (L : Lp) (R : Option Res → Prop) (N : St → Prop) (a0 a1 a2 a3 a4 a5 a6 a7 b0 b1 b2 b3 b4 b5 b6 b7 : ByteArray) : (evP E147 G147 L (lp147 2) (st147 a0 a1 a2 a3 a4 a5 a6 a7 b0 b1 b2 b3 b4 b5 b6 b7 0) (rk147 L R 2 N)) = (
    br (!strEq a0 b0) (R (some { av := AV.val (Value.bool false), obs := [], outs := [] }))
      (N
        {
          tm :=
            [AV.agg
                [AV.val (Value.string a0), AV.val (Value.string a1), AV.val (Value.string a2), AV.val (Value.string a3),
                  AV.val (Value.string a4), AV.val (Value.string a5), AV.val (Value.string a6), AV.val (Value.string a7)],
              AV.agg
                [AV.val (Value.string b0), AV.val (Value.string b1), AV.val (Value.string b2), AV.val (Value.string b3),
                  AV.val (Value.string b4), AV.val (Value.string b5), AV.val (Value.string b6), AV.val (Value.string b7)],
              AV.ptr 0 0, AV.ptr 1 0, AV.val (Value.bool false), AV.val (Value.int IntKind.i64 1), AV.junk, AV.junk,
              AV.junk, AV.junk, AV.junk, AV.junk, AV.junk, AV.junk, AV.junk, AV.junk, AV.junk],
          ob :=
            [(0,
                AO.box
                  [AV.val (Value.string a0), AV.val (Value.string a1), AV.val (Value.string a2), AV.val (Value.string a3),
                    AV.val (Value.string a4), AV.val (Value.string a5), AV.val (Value.string a6),
                    AV.val (Value.string a7)]),
              (1,
                AO.box
                  [AV.val (Value.string b0), AV.val (Value.string b1), AV.val (Value.string b2), AV.val (Value.string b3),
                    AV.val (Value.string b4), AV.val (Value.string b5), AV.val (Value.string b6),
                    AV.val (Value.string b7)])],
          nx := 1000000, ps := [] })) := by kernel_rfl
theorem b147_1 (L : Lp) (R : Option Res → Prop) (N : St → Prop) (a0 a1 a2 a3 a4 a5 a6 a7 b0 b1 b2 b3 b4 b5 b6 b7 : ByteArray) : (evP E147 G147 L (lp147 2) (st147 a0 a1 a2 a3 a4 a5 a6 a7 b0 b1 b2 b3 b4 b5 b6 b7 1) (rk147 L R 2 N)) = (
    br (!strEq a1 b1) (R (some { av := AV.val (Value.bool false), obs := [], outs := [] }))
      (N
        {
          tm :=
            [AV.agg
                [AV.val (Value.string a0), AV.val (Value.string a1), AV.val (Value.string a2), AV.val (Value.string a3),
                  AV.val (Value.string a4), AV.val (Value.string a5), AV.val (Value.string a6), AV.val (Value.string a7)],
              AV.agg
                [AV.val (Value.string b0), AV.val (Value.string b1), AV.val (Value.string b2), AV.val (Value.string b3),
                  AV.val (Value.string b4), AV.val (Value.string b5), AV.val (Value.string b6), AV.val (Value.string b7)],
              AV.ptr 0 0, AV.ptr 1 0, AV.val (Value.bool false), AV.val (Value.int IntKind.i64 2), AV.junk, AV.junk,
              AV.junk, AV.junk, AV.junk, AV.junk, AV.junk, AV.junk, AV.junk, AV.junk, AV.junk],
          ob :=
            [(0,
                AO.box
                  [AV.val (Value.string a0), AV.val (Value.string a1), AV.val (Value.string a2), AV.val (Value.string a3),
                    AV.val (Value.string a4), AV.val (Value.string a5), AV.val (Value.string a6),
                    AV.val (Value.string a7)]),
              (1,
                AO.box
                  [AV.val (Value.string b0), AV.val (Value.string b1), AV.val (Value.string b2), AV.val (Value.string b3),
                    AV.val (Value.string b4), AV.val (Value.string b5), AV.val (Value.string b6),
                    AV.val (Value.string b7)])],
          nx := 1000000, ps := [] })) := by kernel_rfl
theorem b147_2 (L : Lp) (R : Option Res → Prop) (N : St → Prop) (a0 a1 a2 a3 a4 a5 a6 a7 b0 b1 b2 b3 b4 b5 b6 b7 : ByteArray) : (evP E147 G147 L (lp147 2) (st147 a0 a1 a2 a3 a4 a5 a6 a7 b0 b1 b2 b3 b4 b5 b6 b7 2) (rk147 L R 2 N)) = (
    br (!strEq a2 b2) (R (some { av := AV.val (Value.bool false), obs := [], outs := [] }))
      (N
        {
          tm :=
            [AV.agg
                [AV.val (Value.string a0), AV.val (Value.string a1), AV.val (Value.string a2), AV.val (Value.string a3),
                  AV.val (Value.string a4), AV.val (Value.string a5), AV.val (Value.string a6), AV.val (Value.string a7)],
              AV.agg
                [AV.val (Value.string b0), AV.val (Value.string b1), AV.val (Value.string b2), AV.val (Value.string b3),
                  AV.val (Value.string b4), AV.val (Value.string b5), AV.val (Value.string b6), AV.val (Value.string b7)],
              AV.ptr 0 0, AV.ptr 1 0, AV.val (Value.bool false), AV.val (Value.int IntKind.i64 3), AV.junk, AV.junk,
              AV.junk, AV.junk, AV.junk, AV.junk, AV.junk, AV.junk, AV.junk, AV.junk, AV.junk],
          ob :=
            [(0,
                AO.box
                  [AV.val (Value.string a0), AV.val (Value.string a1), AV.val (Value.string a2), AV.val (Value.string a3),
                    AV.val (Value.string a4), AV.val (Value.string a5), AV.val (Value.string a6),
                    AV.val (Value.string a7)]),
              (1,
                AO.box
                  [AV.val (Value.string b0), AV.val (Value.string b1), AV.val (Value.string b2), AV.val (Value.string b3),
                    AV.val (Value.string b4), AV.val (Value.string b5), AV.val (Value.string b6),
                    AV.val (Value.string b7)])],
          nx := 1000000, ps := [] })) := by kernel_rfl
theorem b147_3 (L : Lp) (R : Option Res → Prop) (N : St → Prop) (a0 a1 a2 a3 a4 a5 a6 a7 b0 b1 b2 b3 b4 b5 b6 b7 : ByteArray) : (evP E147 G147 L (lp147 2) (st147 a0 a1 a2 a3 a4 a5 a6 a7 b0 b1 b2 b3 b4 b5 b6 b7 3) (rk147 L R 2 N)) = (
    br (!strEq a3 b3) (R (some { av := AV.val (Value.bool false), obs := [], outs := [] }))
      (N
        {
          tm :=
            [AV.agg
                [AV.val (Value.string a0), AV.val (Value.string a1), AV.val (Value.string a2), AV.val (Value.string a3),
                  AV.val (Value.string a4), AV.val (Value.string a5), AV.val (Value.string a6), AV.val (Value.string a7)],
              AV.agg
                [AV.val (Value.string b0), AV.val (Value.string b1), AV.val (Value.string b2), AV.val (Value.string b3),
                  AV.val (Value.string b4), AV.val (Value.string b5), AV.val (Value.string b6), AV.val (Value.string b7)],
              AV.ptr 0 0, AV.ptr 1 0, AV.val (Value.bool false), AV.val (Value.int IntKind.i64 4), AV.junk, AV.junk,
              AV.junk, AV.junk, AV.junk, AV.junk, AV.junk, AV.junk, AV.junk, AV.junk, AV.junk],
          ob :=
            [(0,
                AO.box
                  [AV.val (Value.string a0), AV.val (Value.string a1), AV.val (Value.string a2), AV.val (Value.string a3),
                    AV.val (Value.string a4), AV.val (Value.string a5), AV.val (Value.string a6),
                    AV.val (Value.string a7)]),
              (1,
                AO.box
                  [AV.val (Value.string b0), AV.val (Value.string b1), AV.val (Value.string b2), AV.val (Value.string b3),
                    AV.val (Value.string b4), AV.val (Value.string b5), AV.val (Value.string b6),
                    AV.val (Value.string b7)])],
          nx := 1000000, ps := [] })) := by kernel_rfl
theorem b147_4 (L : Lp) (R : Option Res → Prop) (N : St → Prop) (a0 a1 a2 a3 a4 a5 a6 a7 b0 b1 b2 b3 b4 b5 b6 b7 : ByteArray) : (evP E147 G147 L (lp147 2) (st147 a0 a1 a2 a3 a4 a5 a6 a7 b0 b1 b2 b3 b4 b5 b6 b7 4) (rk147 L R 2 N)) = (
    br (!strEq a4 b4) (R (some { av := AV.val (Value.bool false), obs := [], outs := [] }))
      (N
        {
          tm :=
            [AV.agg
                [AV.val (Value.string a0), AV.val (Value.string a1), AV.val (Value.string a2), AV.val (Value.string a3),
                  AV.val (Value.string a4), AV.val (Value.string a5), AV.val (Value.string a6), AV.val (Value.string a7)],
              AV.agg
                [AV.val (Value.string b0), AV.val (Value.string b1), AV.val (Value.string b2), AV.val (Value.string b3),
                  AV.val (Value.string b4), AV.val (Value.string b5), AV.val (Value.string b6), AV.val (Value.string b7)],
              AV.ptr 0 0, AV.ptr 1 0, AV.val (Value.bool false), AV.val (Value.int IntKind.i64 5), AV.junk, AV.junk,
              AV.junk, AV.junk, AV.junk, AV.junk, AV.junk, AV.junk, AV.junk, AV.junk, AV.junk],
          ob :=
            [(0,
                AO.box
                  [AV.val (Value.string a0), AV.val (Value.string a1), AV.val (Value.string a2), AV.val (Value.string a3),
                    AV.val (Value.string a4), AV.val (Value.string a5), AV.val (Value.string a6),
                    AV.val (Value.string a7)]),
              (1,
                AO.box
                  [AV.val (Value.string b0), AV.val (Value.string b1), AV.val (Value.string b2), AV.val (Value.string b3),
                    AV.val (Value.string b4), AV.val (Value.string b5), AV.val (Value.string b6),
                    AV.val (Value.string b7)])],
          nx := 1000000, ps := [] })) := by kernel_rfl
theorem b147_5 (L : Lp) (R : Option Res → Prop) (N : St → Prop) (a0 a1 a2 a3 a4 a5 a6 a7 b0 b1 b2 b3 b4 b5 b6 b7 : ByteArray) : (evP E147 G147 L (lp147 2) (st147 a0 a1 a2 a3 a4 a5 a6 a7 b0 b1 b2 b3 b4 b5 b6 b7 5) (rk147 L R 2 N)) = (
    br (!strEq a5 b5) (R (some { av := AV.val (Value.bool false), obs := [], outs := [] }))
      (N
        {
          tm :=
            [AV.agg
                [AV.val (Value.string a0), AV.val (Value.string a1), AV.val (Value.string a2), AV.val (Value.string a3),
                  AV.val (Value.string a4), AV.val (Value.string a5), AV.val (Value.string a6), AV.val (Value.string a7)],
              AV.agg
                [AV.val (Value.string b0), AV.val (Value.string b1), AV.val (Value.string b2), AV.val (Value.string b3),
                  AV.val (Value.string b4), AV.val (Value.string b5), AV.val (Value.string b6), AV.val (Value.string b7)],
              AV.ptr 0 0, AV.ptr 1 0, AV.val (Value.bool false), AV.val (Value.int IntKind.i64 6), AV.junk, AV.junk,
              AV.junk, AV.junk, AV.junk, AV.junk, AV.junk, AV.junk, AV.junk, AV.junk, AV.junk],
          ob :=
            [(0,
                AO.box
                  [AV.val (Value.string a0), AV.val (Value.string a1), AV.val (Value.string a2), AV.val (Value.string a3),
                    AV.val (Value.string a4), AV.val (Value.string a5), AV.val (Value.string a6),
                    AV.val (Value.string a7)]),
              (1,
                AO.box
                  [AV.val (Value.string b0), AV.val (Value.string b1), AV.val (Value.string b2), AV.val (Value.string b3),
                    AV.val (Value.string b4), AV.val (Value.string b5), AV.val (Value.string b6),
                    AV.val (Value.string b7)])],
          nx := 1000000, ps := [] })) := by kernel_rfl
theorem b147_6 (L : Lp) (R : Option Res → Prop) (N : St → Prop) (a0 a1 a2 a3 a4 a5 a6 a7 b0 b1 b2 b3 b4 b5 b6 b7 : ByteArray) : (evP E147 G147 L (lp147 2) (st147 a0 a1 a2 a3 a4 a5 a6 a7 b0 b1 b2 b3 b4 b5 b6 b7 6) (rk147 L R 2 N)) = (
    br (!strEq a6 b6) (R (some { av := AV.val (Value.bool false), obs := [], outs := [] }))
      (N
        {
          tm :=
            [AV.agg
                [AV.val (Value.string a0), AV.val (Value.string a1), AV.val (Value.string a2), AV.val (Value.string a3),
                  AV.val (Value.string a4), AV.val (Value.string a5), AV.val (Value.string a6), AV.val (Value.string a7)],
              AV.agg
                [AV.val (Value.string b0), AV.val (Value.string b1), AV.val (Value.string b2), AV.val (Value.string b3),
                  AV.val (Value.string b4), AV.val (Value.string b5), AV.val (Value.string b6), AV.val (Value.string b7)],
              AV.ptr 0 0, AV.ptr 1 0, AV.val (Value.bool false), AV.val (Value.int IntKind.i64 7), AV.junk, AV.junk,
              AV.junk, AV.junk, AV.junk, AV.junk, AV.junk, AV.junk, AV.junk, AV.junk, AV.junk],
          ob :=
            [(0,
                AO.box
                  [AV.val (Value.string a0), AV.val (Value.string a1), AV.val (Value.string a2), AV.val (Value.string a3),
                    AV.val (Value.string a4), AV.val (Value.string a5), AV.val (Value.string a6),
                    AV.val (Value.string a7)]),
              (1,
                AO.box
                  [AV.val (Value.string b0), AV.val (Value.string b1), AV.val (Value.string b2), AV.val (Value.string b3),
                    AV.val (Value.string b4), AV.val (Value.string b5), AV.val (Value.string b6),
                    AV.val (Value.string b7)])],
          nx := 1000000, ps := [] })) := by kernel_rfl
theorem b147_7 (L : Lp) (R : Option Res → Prop) (N : St → Prop) (a0 a1 a2 a3 a4 a5 a6 a7 b0 b1 b2 b3 b4 b5 b6 b7 : ByteArray) : (evP E147 G147 L (lp147 2) (st147 a0 a1 a2 a3 a4 a5 a6 a7 b0 b1 b2 b3 b4 b5 b6 b7 7) (rk147 L R 2 N)) = (
    br (!strEq a7 b7) (R (some { av := AV.val (Value.bool false), obs := [], outs := [] }))
      (N
        {
          tm :=
            [AV.agg
                [AV.val (Value.string a0), AV.val (Value.string a1), AV.val (Value.string a2), AV.val (Value.string a3),
                  AV.val (Value.string a4), AV.val (Value.string a5), AV.val (Value.string a6), AV.val (Value.string a7)],
              AV.agg
                [AV.val (Value.string b0), AV.val (Value.string b1), AV.val (Value.string b2), AV.val (Value.string b3),
                  AV.val (Value.string b4), AV.val (Value.string b5), AV.val (Value.string b6), AV.val (Value.string b7)],
              AV.ptr 0 0, AV.ptr 1 0, AV.val (Value.bool false), AV.val (Value.int IntKind.i64 8), AV.junk, AV.junk,
              AV.junk, AV.junk, AV.junk, AV.junk, AV.junk, AV.junk, AV.junk, AV.junk, AV.junk],
          ob :=
            [(0,
                AO.box
                  [AV.val (Value.string a0), AV.val (Value.string a1), AV.val (Value.string a2), AV.val (Value.string a3),
                    AV.val (Value.string a4), AV.val (Value.string a5), AV.val (Value.string a6),
                    AV.val (Value.string a7)]),
              (1,
                AO.box
                  [AV.val (Value.string b0), AV.val (Value.string b1), AV.val (Value.string b2), AV.val (Value.string b3),
                    AV.val (Value.string b4), AV.val (Value.string b5), AV.val (Value.string b6),
                    AV.val (Value.string b7)])],
          nx := 1000000, ps := [] })) := by kernel_rfl
theorem b147_8 (L : Lp) (R : Option Res → Prop) (N : St → Prop) (a0 a1 a2 a3 a4 a5 a6 a7 b0 b1 b2 b3 b4 b5 b6 b7 : ByteArray) : (evP E147 G147 L (lp147 2) (st147 a0 a1 a2 a3 a4 a5 a6 a7 b0 b1 b2 b3 b4 b5 b6 b7 8) (rk147 L R 2 N)) = (
    R (some { av := AV.val (Value.bool true), obs := [], outs := [] })) := by kernel_rfl
def p147 (a0 a1 a2 a3 a4 a5 a6 a7 b0 b1 b2 b3 b4 b5 b6 b7 : ByteArray) : Nat → Bool
  | 0 => strEq a0 b0
  | 1 => strEq a1 b1
  | 2 => strEq a2 b2
  | 3 => strEq a3 b3
  | 4 => strEq a4 b4
  | 5 => strEq a5 b5
  | 6 => strEq a6 b6
  | _ => strEq a7 b7
theorem p147_all (a0 a1 a2 a3 a4 a5 a6 a7 b0 b1 b2 b3 b4 b5 b6 b7 : ByteArray) : allB 8 (p147 a0 a1 a2 a3 a4 a5 a6 a7 b0 b1 b2 b3 b4 b5 b6 b7) = elemEq k8 (a0, a1, a2, a3, a4, a5, a6, a7, ()) (b0, b1, b2, b3, b4, b5, b6, b7, ()) := by
  simp [allB, show List.range 8 = [0, 1, 2, 3, 4, 5, 6, 7] from rfl, p147, elemEq, ckEq]
theorem h147 : G1Ok Try.prog 147 g147 := by
  intro args obs k h
  unfold g147 at h
  split at h
  · rename_i k a0 a1 a2 a3 a4 a5 a6 a7 b0 b1 b2 b3 b4 b5 b6 b7
    refine ⟨_, ctr_fn ok0 hg147 Try.func147 (by kernel_rfl) (by kernel_rfl) (by kernel_rfl) fun C => ?_, h⟩
    rw [e147]
    refine loopAll okf147 hg147 (st147 a0 a1 a2 a3 a4 a5 a6 a7 b0 b1 b2 b3 b4 b5 b6 b7) 8 (p147 a0 a1 a2 a3 a4 a5 a6 a7 b0 b1 b2 b3 b4 b5 b6 b7) (by omega) (fun N i hi hw next fails done => ?_)
    rw [p147_all] at fails done
    have cs : i = 0 ∨ i = 1 ∨ i = 2 ∨ i = 3 ∨ i = 4 ∨ i = 5 ∨ i = 6 ∨ i = 7 ∨ i = 8 := by omega
    rcases cs with rfl | rfl | rfl | rfl | rfl | rfl | rfl | rfl | rfl
    · show evP E147 G147 _ (lp147 2) (st147 a0 a1 a2 a3 a4 a5 a6 a7 b0 b1 b2 b3 b4 b5 b6 b7 0) (rk147 _ _ 2 _)
      rw [b147_0]
      refine br_not (fun h => ?_) (fun h => ?_)
      · show _ = _
        rw [fails (by omega) h]
      · exact next (by omega) h
    · show evP E147 G147 _ (lp147 2) (st147 a0 a1 a2 a3 a4 a5 a6 a7 b0 b1 b2 b3 b4 b5 b6 b7 1) (rk147 _ _ 2 _)
      rw [b147_1]
      refine br_not (fun h => ?_) (fun h => ?_)
      · show _ = _
        rw [fails (by omega) h]
      · exact next (by omega) h
    · show evP E147 G147 _ (lp147 2) (st147 a0 a1 a2 a3 a4 a5 a6 a7 b0 b1 b2 b3 b4 b5 b6 b7 2) (rk147 _ _ 2 _)
      rw [b147_2]
      refine br_not (fun h => ?_) (fun h => ?_)
      · show _ = _
        rw [fails (by omega) h]
      · exact next (by omega) h
    · show evP E147 G147 _ (lp147 2) (st147 a0 a1 a2 a3 a4 a5 a6 a7 b0 b1 b2 b3 b4 b5 b6 b7 3) (rk147 _ _ 2 _)
      rw [b147_3]
      refine br_not (fun h => ?_) (fun h => ?_)
      · show _ = _
        rw [fails (by omega) h]
      · exact next (by omega) h
    · show evP E147 G147 _ (lp147 2) (st147 a0 a1 a2 a3 a4 a5 a6 a7 b0 b1 b2 b3 b4 b5 b6 b7 4) (rk147 _ _ 2 _)
      rw [b147_4]
      refine br_not (fun h => ?_) (fun h => ?_)
      · show _ = _
        rw [fails (by omega) h]
      · exact next (by omega) h
    · show evP E147 G147 _ (lp147 2) (st147 a0 a1 a2 a3 a4 a5 a6 a7 b0 b1 b2 b3 b4 b5 b6 b7 5) (rk147 _ _ 2 _)
      rw [b147_5]
      refine br_not (fun h => ?_) (fun h => ?_)
      · show _ = _
        rw [fails (by omega) h]
      · exact next (by omega) h
    · show evP E147 G147 _ (lp147 2) (st147 a0 a1 a2 a3 a4 a5 a6 a7 b0 b1 b2 b3 b4 b5 b6 b7 6) (rk147 _ _ 2 _)
      rw [b147_6]
      refine br_not (fun h => ?_) (fun h => ?_)
      · show _ = _
        rw [fails (by omega) h]
      · exact next (by omega) h
    · show evP E147 G147 _ (lp147 2) (st147 a0 a1 a2 a3 a4 a5 a6 a7 b0 b1 b2 b3 b4 b5 b6 b7 7) (rk147 _ _ 2 _)
      rw [b147_7]
      refine br_not (fun h => ?_) (fun h => ?_)
      · show _ = _
        rw [fails (by omega) h]
      · exact next (by omega) h
    · show evP E147 G147 _ (lp147 2) (st147 a0 a1 a2 a3 a4 a5 a6 a7 b0 b1 b2 b3 b4 b5 b6 b7 8) (rk147 _ _ 2 _)
      rw [b147_8]
      show _ = _
      rw [done (by omega)]
  · exact h.elim
def g125 : G1
  | [.agg [.val (.string a0), .val (.int .i64 a1), .val (.string a2), .val (.string a3), .val (.string a4), .val (.string a5), .val (.string a6), .val (.string a7), .val (.string a8), .val (.string a9), .val (.string a10)], .agg [.val (.string b0), .val (.int .i64 b1), .val (.string b2), .val (.string b3), .val (.string b4), .val (.string b5), .val (.string b6), .val (.string b7), .val (.string b8), .val (.string b9), .val (.string b10)]], [], k => k ⟨.val (.bool (elemEq kb (a0, a1, a2, a3, a4, a5, a6, a7, a8, a9, a10, ()) (b0, b1, b2, b3, b4, b5, b6, b7, b8, b9, b10, ()))), [], []⟩
  | _, _, _ => False
noncomputable def E125 : Env := E0.of Try.f125
noncomputable def G125 : Gk := gk [(147, g147)]
noncomputable def lp125 (n : Nat) : Code := (loopOf n (codeOf Try.f125)).getD .skip
noncomputable def ct125 (L : Lp) (R : Option Res → Prop) (n : Nat) : Kt := contOf E125 G125 L n (codeOf Try.f125) (endK E125 Try.f125.results.toList R)
noncomputable def rk125 (L : Lp) (R : Option Res → Prop) (n : Nat) (N : St → Prop) : Kt := rk (jof E125 (lp125 n)) N (ct125 L R n)
noncomputable def LOOP125 (L : Lp) (R : Option Res → Prop) (n : Nat) (st : St) : Prop := L (lp125 n) st (ct125 L R n)
theorem hg125 : HG Try.prog G125 := (hg_cons h147 hg_nil)
theorem okf125 : Ok Try.prog E125 := ok0.of Try.f125
theorem e125 (L : Lp) (R : Option Res → Prop) (a0 : ByteArray) (a1 : Int) (a2 : ByteArray) (a3 : ByteArray) (a4 : ByteArray) (a5 : ByteArray) (a6 : ByteArray) (a7 : ByteArray) (a8 : ByteArray) (a9 : ByteArray) (a10 : ByteArray) (b0 : ByteArray) (b1 : Int) (b2 : ByteArray) (b3 : ByteArray) (b4 : ByteArray) (b5 : ByteArray) (b6 : ByteArray) (b7 : ByteArray) (b8 : ByteArray) (b9 : ByteArray) (b10 : ByteArray) : (bodyP E0 G125 L Try.f125 [.agg [.val (.string a0), .val (.int .i64 a1), .val (.string a2), .val (.string a3), .val (.string a4), .val (.string a5), .val (.string a6), .val (.string a7), .val (.string a8), .val (.string a9), .val (.string a10)], .agg [.val (.string b0), .val (.int .i64 b1), .val (.string b2), .val (.string b3), .val (.string b4), .val (.string b5), .val (.string b6), .val (.string b7), .val (.string b8), .val (.string b9), .val (.string b10)]] [] R) = (
    br (!strEq a0 b0) (R (some { av := AV.val (Value.bool false), obs := [], outs := [] }))
      (br (a1 != b1) (R (some { av := AV.val (Value.bool false), obs := [], outs := [] }))
        (br (!strEq a2 b2) (R (some { av := AV.val (Value.bool false), obs := [], outs := [] }))
          (br (!elemEq k8 (a3, a4, a5, a6, a7, a8, a9, a10, ()) (b3, b4, b5, b6, b7, b8, b9, b10, ()))
            (R (some { av := AV.val (Value.bool false), obs := [], outs := [] }))
            (R (some { av := AV.val (Value.bool true), obs := [], outs := [] })))))) := by kernel_rfl
theorem h125 : G1Ok Try.prog 125 g125 := by
  intro args obs k h
  unfold g125 at h
  split at h
  · rename_i k a0 a1 a2 a3 a4 a5 a6 a7 a8 a9 a10 b0 b1 b2 b3 b4 b5 b6 b7 b8 b9 b10
    refine ⟨_, ctr_fn ok0 hg125 Try.func125 (by kernel_rfl) (by kernel_rfl) (by kernel_rfl) fun C => ?_, h⟩
    rw [e125]
    repeat' (first | refine br_intro (fun h => ?_) (fun h => ?_))
    all_goals simp_all [elemEq, ckEq]
    all_goals grind
  · exact h.elim
def g77 : G1
  | [.rsl [.str, .int .i64, .str, .str, .str, .str, .str, .str, .str, .str, .str] xs, .rsl [.str, .int .i64, .str, .str, .str, .str, .str, .str, .str, .str, .str] ys], [], k => br (decide (xs.length ≤ 1048576)) (k ⟨.val (.bool (eqR kb xs ys)), [], []⟩) False
  | _, _, _ => False
noncomputable def E77 : Env := E0.of Try.f77
noncomputable def G77 : Gk := gk [(125, g125)]
noncomputable def lp77 (n : Nat) : Code := (loopOf n (codeOf Try.f77)).getD .skip
noncomputable def ct77 (L : Lp) (R : Option Res → Prop) (n : Nat) : Kt := contOf E77 G77 L n (codeOf Try.f77) (endK E77 Try.f77.results.toList R)
noncomputable def rk77 (L : Lp) (R : Option Res → Prop) (n : Nat) (N : St → Prop) : Kt := rk (jof E77 (lp77 n)) N (ct77 L R n)
noncomputable def LOOP77 (L : Lp) (R : Option Res → Prop) (n : Nat) (st : St) : Prop := L (lp77 n) st (ct77 L R n)
theorem hg77 : HG Try.prog G77 := (hg_cons h125 hg_nil)
theorem okf77 : Ok Try.prog E77 := ok0.of Try.f77
theorem e77 (L : Lp) (R : Option Res → Prop) (xs ys : List (Elem kb)) : (bodyP E0 G77 L Try.f77 [.rsl kb xs, .rsl kb ys] [] R) = (
    br ((↑xs.length : Int) != (↑ys.length : Int)) (R (some { av := AV.val (Value.bool false), obs := [], outs := [] }))
      (LOOP77 L R 4
        {
          tm :=
            [AV.rsl [CK.str, CK.int IntKind.i64, CK.str, CK.str, CK.str, CK.str, CK.str, CK.str, CK.str, CK.str, CK.str] xs,
              AV.rsl [CK.str, CK.int IntKind.i64, CK.str, CK.str, CK.str, CK.str, CK.str, CK.str, CK.str, CK.str, CK.str]
                ys,
              AV.val (Value.tuple #[]), AV.val (Value.tuple #[]), AV.val (Value.bool false),
              AV.val (Value.int IntKind.i64 0),
              AV.rsl [CK.str, CK.int IntKind.i64, CK.str, CK.str, CK.str, CK.str, CK.str, CK.str, CK.str, CK.str, CK.str]
                xs,
              AV.val (Value.int IntKind.i64 (↑xs.length : Int)),
              AV.rsl [CK.str, CK.int IntKind.i64, CK.str, CK.str, CK.str, CK.str, CK.str, CK.str, CK.str, CK.str, CK.str]
                ys,
              AV.val (Value.int IntKind.i64 (↑ys.length : Int)),
              AV.val (Value.bool ((↑xs.length : Int) != (↑ys.length : Int))), AV.junk, AV.junk, AV.junk, AV.junk, AV.junk,
              AV.junk, AV.junk, AV.junk, AV.junk, AV.junk, AV.junk, AV.junk, AV.junk, AV.junk, AV.junk, AV.junk],
          ob := [], nx := 1000000, ps := [] })) := by kernel_rfl
def st77 (xs ys : List (Elem kb)) (i : Int) : St :=
  ⟨[AV.rsl [CK.str, CK.int IntKind.i64, CK.str, CK.str, CK.str, CK.str, CK.str, CK.str, CK.str, CK.str, CK.str] xs, AV.rsl [CK.str, CK.int IntKind.i64, CK.str, CK.str, CK.str, CK.str, CK.str, CK.str, CK.str, CK.str, CK.str] ys, AV.val (Value.tuple #[]), AV.val (Value.tuple #[]), AV.val (Value.bool false), .val (.int .i64 i), AV.rsl [CK.str, CK.int IntKind.i64, CK.str, CK.str, CK.str, CK.str, CK.str, CK.str, CK.str, CK.str, CK.str] xs, AV.val (Value.int IntKind.i64 (↑xs.length : Int)), AV.rsl [CK.str, CK.int IntKind.i64, CK.str, CK.str, CK.str, CK.str, CK.str, CK.str, CK.str, CK.str, CK.str] ys, AV.val (Value.int IntKind.i64 (↑ys.length : Int)), AV.val (Value.bool ((↑xs.length : Int) != (↑ys.length : Int))), AV.junk, AV.junk, AV.junk, AV.junk, AV.junk, AV.junk, AV.junk, AV.junk, AV.junk, AV.junk, AV.junk, AV.junk, AV.junk, AV.junk, AV.junk, AV.junk],
    [], 1000000, []⟩
theorem b77 (L : Lp) (R : Option Res → Prop) (N : St → Prop) (xs ys : List (Elem kb)) (i : Int) : (evP E77 G77 L (lp77 4) (st77 xs ys i) (rk77 L R 4 N)) = (
    br (decide (i < (↑xs.length : Int)))
      (br (decide (0 ≤ i ∧ i < (↑xs.length : Int)))
        (br (decide (0 ≤ i ∧ i < (↑ys.length : Int)))
          (br
            (!elemEq kb
                (xs.getD i.toNat
                  (edflt
                    [CK.str, CK.int IntKind.i64, CK.str, CK.str, CK.str, CK.str, CK.str, CK.str, CK.str, CK.str, CK.str]))
                (ys.getD i.toNat
                  (edflt
                    [CK.str, CK.int IntKind.i64, CK.str, CK.str, CK.str, CK.str, CK.str, CK.str, CK.str, CK.str, CK.str])))
            (R (some { av := AV.val (Value.bool false), obs := [], outs := [] }))
            (N
              {
                tm :=
                  [AV.rsl
                      [CK.str, CK.int IntKind.i64, CK.str, CK.str, CK.str, CK.str, CK.str, CK.str, CK.str, CK.str, CK.str]
                      xs,
                    AV.rsl
                      [CK.str, CK.int IntKind.i64, CK.str, CK.str, CK.str, CK.str, CK.str, CK.str, CK.str, CK.str, CK.str]
                      ys,
                    AV.val (Value.tuple #[]), AV.val (Value.tuple #[]), AV.val (Value.bool false),
                    AV.val (Value.int IntKind.i64 (IntKind.i64.wrap (i + 1))),
                    AV.rsl
                      [CK.str, CK.int IntKind.i64, CK.str, CK.str, CK.str, CK.str, CK.str, CK.str, CK.str, CK.str, CK.str]
                      xs,
                    AV.val (Value.int IntKind.i64 (↑xs.length : Int)),
                    AV.rsl
                      [CK.str, CK.int IntKind.i64, CK.str, CK.str, CK.str, CK.str, CK.str, CK.str, CK.str, CK.str, CK.str]
                      ys,
                    AV.val (Value.int IntKind.i64 (↑ys.length : Int)),
                    AV.val (Value.bool ((↑xs.length : Int) != (↑ys.length : Int))), AV.junk, AV.junk, AV.junk, AV.junk,
                    AV.junk, AV.junk, AV.junk, AV.junk, AV.junk, AV.junk, AV.junk, AV.junk, AV.junk, AV.junk, AV.junk,
                    AV.junk],
                ob := [], nx := 1000000, ps := [] }))
          False)
        False)
      (R (some { av := AV.val (Value.bool true), obs := [], outs := [] }))) := by kernel_rfl
theorem h77 : G1Ok Try.prog 77 g77 := by
  intro args obs k h
  unfold g77 at h
  split at h
  · rename_i k xs ys
    obtain ⟨hlen, h⟩ := brd h
    refine ⟨_, ctr_fn ok0 hg77 Try.func77 (by kernel_rfl) (by kernel_rfl) (by kernel_rfl) fun C => ?_, h⟩
    rw [e77]
    refine br_intro (fun hb => ?_) (fun hb => ?_)
    · show _ = _
      rw [show eqR kb xs ys = false from eqL_len (fun e => by rw [e] at hb; simp at hb)]
    have hl : xs.length = ys.length := by simp at hb; omega
    exact loopAll okf77 hg77 (fun i => st77 xs ys i) xs.length (fun i => elemEq kb (xs.getD i (edflt kb)) (ys.getD i (edflt kb))) (by omega) (fun N i hi hw next fails done => by
      show evP E77 G77 _ (lp77 4) (st77 xs ys i) (rk77 _ _ 4 _)
      rw [b77, hw, Int.toNat_natCast]
      refine br_dec (fun h2 => br_yes ⟨by omega, h2⟩ (br_yes ⟨by omega, by omega⟩ (br_not (fun h3 => ?_) (fun h3 => ?_)))) (fun h2 => ?_)
      · show _ = _
        rw [show eqR kb xs ys = false from (eqL_of hl).trans (fails (by omega) h3)]
      · exact next (by omega) h3
      · show _ = _
        rw [show eqR kb xs ys = true from (eqL_of hl).trans (done (by omega))])
  · exact h.elim
noncomputable def E34 : Env := E0.of Try.f34
noncomputable def G34 : Gk := gk [(77, g77)]
noncomputable def lp34 (n : Nat) : Code := (loopOf n (codeOf Try.f34)).getD .skip
noncomputable def ct34 (L : Lp) (R : Option Res → Prop) (n : Nat) : Kt := contOf E34 G34 L n (codeOf Try.f34) (endK E34 Try.f34.results.toList R)
noncomputable def rk34 (L : Lp) (R : Option Res → Prop) (n : Nat) (N : St → Prop) : Kt := rk (jof E34 (lp34 n)) N (ct34 L R n)
noncomputable def LOOP34 (L : Lp) (R : Option Res → Prop) (n : Nat) (st : St) : Prop := L (lp34 n) st (ct34 L R n)
theorem hg34 : HG Try.prog G34 := (hg_cons h77 hg_nil)
theorem okf34 : Ok Try.prog E34 := ok0.of Try.f34
theorem e34 (L : Lp) (R : Option Res → Prop) (xs ys : List (Elem kb)) : (bodyP E0 G34 L Try.f34 [.agg [.rsl kb xs], .agg [.rsl kb ys]] [] R) = (
    br (decide (xs.length ≤ 1048576))
      (br (!eqR kb xs ys) (R (some { av := AV.val (Value.bool false), obs := [], outs := [] }))
        (R (some { av := AV.val (Value.bool true), obs := [], outs := [] })))
      False) := by kernel_rfl
theorem h34 : G1Ok Try.prog 34 g34 := by
  intro args obs k h
  unfold g34 at h
  split at h
  · rename_i k xs ys
    obtain ⟨hlen, h⟩ := brd h
    refine ⟨_, ctr_fn ok0 hg34 Try.func34 (by kernel_rfl) (by kernel_rfl) (by kernel_rfl) fun C => ?_, h⟩
    rw [e34]
    refine br_yes hlen (br_not (fun h => ?_) (fun h => ?_)) <;> rw [h]
  · exact h.elim
def g76 : G1
  | [.rsl [.str, .int .i64, .str, .str, .str, .str, .str, .str, .str, .str, .str] xs, .rsl [.str, .int .i64, .str, .str, .str, .str, .str, .str, .str, .str, .str] ys], [], k => br (decide (xs.length ≤ 1048576)) (k ⟨.val (.bool (eqR kb xs ys)), [], []⟩) False
  | _, _, _ => False
noncomputable def E76 : Env := E0.of Try.f76
noncomputable def G76 : Gk := gk []
noncomputable def lp76 (n : Nat) : Code := (loopOf n (codeOf Try.f76)).getD .skip
noncomputable def ct76 (L : Lp) (R : Option Res → Prop) (n : Nat) : Kt := contOf E76 G76 L n (codeOf Try.f76) (endK E76 Try.f76.results.toList R)
noncomputable def rk76 (L : Lp) (R : Option Res → Prop) (n : Nat) (N : St → Prop) : Kt := rk (jof E76 (lp76 n)) N (ct76 L R n)
noncomputable def LOOP76 (L : Lp) (R : Option Res → Prop) (n : Nat) (st : St) : Prop := L (lp76 n) st (ct76 L R n)
theorem hg76 : HG Try.prog G76 := hg_nil
theorem okf76 : Ok Try.prog E76 := ok0.of Try.f76
theorem e76 (L : Lp) (R : Option Res → Prop) (xs ys : List (Elem kb)) : (bodyP E0 G76 L Try.f76 [.rsl kb xs, .rsl kb ys] [] R) = (
    br ((↑xs.length : Int) != (↑ys.length : Int)) (R (some { av := AV.val (Value.bool false), obs := [], outs := [] }))
      (LOOP76 L R 4
        {
          tm :=
            [AV.rsl [CK.str, CK.int IntKind.i64, CK.str, CK.str, CK.str, CK.str, CK.str, CK.str, CK.str, CK.str, CK.str] xs,
              AV.rsl [CK.str, CK.int IntKind.i64, CK.str, CK.str, CK.str, CK.str, CK.str, CK.str, CK.str, CK.str, CK.str]
                ys,
              AV.val (Value.tuple #[]), AV.val (Value.tuple #[]), AV.val (Value.bool false), AV.junk,
              AV.rsl [CK.str, CK.int IntKind.i64, CK.str, CK.str, CK.str, CK.str, CK.str, CK.str, CK.str, CK.str, CK.str]
                xs,
              AV.val (Value.int IntKind.i64 (↑xs.length : Int)),
              AV.rsl [CK.str, CK.int IntKind.i64, CK.str, CK.str, CK.str, CK.str, CK.str, CK.str, CK.str, CK.str, CK.str]
                ys,
              AV.val (Value.int IntKind.i64 (↑ys.length : Int)),
              AV.val (Value.bool ((↑xs.length : Int) != (↑ys.length : Int))),
              AV.rsl [CK.str, CK.int IntKind.i64, CK.str, CK.str, CK.str, CK.str, CK.str, CK.str, CK.str, CK.str, CK.str]
                xs,
              AV.val (Value.int IntKind.i64 (↑xs.length : Int)), AV.val (Value.int IntKind.i64 0), AV.junk, AV.junk,
              AV.junk, AV.junk, AV.junk, AV.junk, AV.junk, AV.junk, AV.junk, AV.junk, AV.junk, AV.junk],
          ob := [], nx := 1000000, ps := [] })) := by kernel_rfl
def st76 (xs ys : List (Elem kb)) (i : Int) : St :=
  ⟨[AV.rsl [CK.str, CK.int IntKind.i64, CK.str, CK.str, CK.str, CK.str, CK.str, CK.str, CK.str, CK.str, CK.str] xs, AV.rsl [CK.str, CK.int IntKind.i64, CK.str, CK.str, CK.str, CK.str, CK.str, CK.str, CK.str, CK.str, CK.str] ys, AV.val (Value.tuple #[]), AV.val (Value.tuple #[]), AV.val (Value.bool false), AV.junk, AV.rsl [CK.str, CK.int IntKind.i64, CK.str, CK.str, CK.str, CK.str, CK.str, CK.str, CK.str, CK.str, CK.str] xs, AV.val (Value.int IntKind.i64 (↑xs.length : Int)), AV.rsl [CK.str, CK.int IntKind.i64, CK.str, CK.str, CK.str, CK.str, CK.str, CK.str, CK.str, CK.str, CK.str] ys, AV.val (Value.int IntKind.i64 (↑ys.length : Int)), AV.val (Value.bool ((↑xs.length : Int) != (↑ys.length : Int))), AV.rsl [CK.str, CK.int IntKind.i64, CK.str, CK.str, CK.str, CK.str, CK.str, CK.str, CK.str, CK.str, CK.str] xs, AV.val (Value.int IntKind.i64 (↑xs.length : Int)), .val (.int .i64 i), AV.junk, AV.junk, AV.junk, AV.junk, AV.junk, AV.junk, AV.junk, AV.junk, AV.junk, AV.junk, AV.junk, AV.junk],
    [], 1000000, []⟩
theorem b76 (L : Lp) (R : Option Res → Prop) (N : St → Prop) (xs ys : List (Elem kb)) (i : Int) : (evP E76 G76 L (lp76 4) (st76 xs ys i) (rk76 L R 4 N)) = (
    br (decide (i < (↑xs.length : Int)))
      (br (decide (0 ≤ i ∧ i < (↑xs.length : Int)))
        (br (decide (0 ≤ i ∧ i < (↑ys.length : Int)))
          (br
            (!elemEq
                [CK.str, CK.int IntKind.i64, CK.str, CK.str, CK.str, CK.str, CK.str, CK.str, CK.str, CK.str,
                        CK.str]
                (xs.getD i.toNat
                  (edflt
                    [CK.str, CK.int IntKind.i64, CK.str, CK.str, CK.str, CK.str, CK.str, CK.str, CK.str, CK.str, CK.str]))
                (ys.getD i.toNat
                  (edflt
                    [CK.str, CK.int IntKind.i64, CK.str, CK.str, CK.str, CK.str, CK.str, CK.str, CK.str, CK.str, CK.str])))
            (R (some { av := AV.val (Value.bool false), obs := [], outs := [] }))
            (N
              {
                tm :=
                  [AV.rsl
                      [CK.str, CK.int IntKind.i64, CK.str, CK.str, CK.str, CK.str, CK.str, CK.str, CK.str, CK.str, CK.str]
                      xs,
                    AV.rsl
                      [CK.str, CK.int IntKind.i64, CK.str, CK.str, CK.str, CK.str, CK.str, CK.str, CK.str, CK.str, CK.str]
                      ys,
                    AV.val (Value.tuple #[]), AV.val (Value.tuple #[]), AV.val (Value.bool false), AV.junk,
                    AV.rsl
                      [CK.str, CK.int IntKind.i64, CK.str, CK.str, CK.str, CK.str, CK.str, CK.str, CK.str, CK.str, CK.str]
                      xs,
                    AV.val (Value.int IntKind.i64 (↑xs.length : Int)),
                    AV.rsl
                      [CK.str, CK.int IntKind.i64, CK.str, CK.str, CK.str, CK.str, CK.str, CK.str, CK.str, CK.str, CK.str]
                      ys,
                    AV.val (Value.int IntKind.i64 (↑ys.length : Int)),
                    AV.val (Value.bool ((↑xs.length : Int) != (↑ys.length : Int))),
                    AV.rsl
                      [CK.str, CK.int IntKind.i64, CK.str, CK.str, CK.str, CK.str, CK.str, CK.str, CK.str, CK.str, CK.str]
                      xs,
                    AV.val (Value.int IntKind.i64 (↑xs.length : Int)),
                    AV.val (Value.int IntKind.i64 (IntKind.i64.wrap (i + 1))), AV.junk, AV.junk, AV.junk, AV.junk, AV.junk,
                    AV.junk, AV.junk, AV.junk, AV.junk, AV.junk, AV.junk, AV.junk],
                ob := [], nx := 1000000, ps := [] }))
          False)
        False)
      (R (some { av := AV.val (Value.bool true), obs := [], outs := [] }))) := by kernel_rfl
theorem h76 : G1Ok Try.prog 76 g76 := by
  intro args obs k h
  unfold g76 at h
  split at h
  · rename_i k xs ys
    obtain ⟨hlen, h⟩ := brd h
    refine ⟨_, ctr_fn ok0 hg76 Try.func76 (by kernel_rfl) (by kernel_rfl) (by kernel_rfl) fun C => ?_, h⟩
    rw [e76]
    refine br_intro (fun hb => ?_) (fun hb => ?_)
    · show _ = _
      rw [show eqR kb xs ys = false from eqL_len (fun e => by rw [e] at hb; simp at hb)]
    have hl : xs.length = ys.length := by simp at hb; omega
    exact loopAll okf76 hg76 (fun i => st76 xs ys i) xs.length (fun i => elemEq kb (xs.getD i (edflt kb)) (ys.getD i (edflt kb))) (by omega) (fun N i hi hw next fails done => by
      show evP E76 G76 _ (lp76 4) (st76 xs ys i) (rk76 _ _ 4 _)
      rw [b76, hw, Int.toNat_natCast]
      refine br_dec (fun h2 => br_yes ⟨by omega, h2⟩ (br_yes ⟨by omega, by omega⟩ (br_not (fun h3 => ?_) (fun h3 => ?_)))) (fun h2 => ?_)
      · show _ = _
        rw [show eqR kb xs ys = false from (eqL_of hl).trans (fails (by omega) h3)]
      · exact next (by omega) h3
      · show _ = _
        rw [show eqR kb xs ys = true from (eqL_of hl).trans (done (by omega))])
  · exact h.elim
end Go.Proofs.Ytjhjhkphcemcmaa.Ev
