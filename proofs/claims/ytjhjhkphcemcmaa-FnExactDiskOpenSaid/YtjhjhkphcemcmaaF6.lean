/- Contracts for books: sizes, copies, equality. -/
import Derived.Test.YtjhjhkphcemcmaaF5
namespace Go.Proofs.Ytjhjhkphcemcmaa.Ev
open Go
set_option linter.unusedVariables false
set_option linter.unusedSimpArgs false
set_option maxRecDepth 100000
abbrev s8 (a0 a1 a2 a3 a4 a5 a6 a7 : ByteArray) : AV := .agg [.val (.string a0), .val (.string a1), .val (.string a2), .val (.string a3), .val (.string a4), .val (.string a5), .val (.string a6), .val (.string a7)]
def inL (l : Int) : Bool := decide (0 ≤ l ∧ l ≤ 1048576)
def inS (a : ByteArray) : Bool := decide (a.size ≤ 9223372036854775807)
def sz8 (a0 a1 a2 a3 a4 a5 a6 a7 : ByteArray) : Nat := a0.size + a1.size + a2.size + a3.size + a4.size + a5.size + a6.size + a7.size
def in8 (a0 a1 a2 a3 a4 a5 a6 a7 : ByteArray) : Bool := inS a0 && inS a1 && inS a2 && inS a3 && inS a4 && inS a5 && inS a6 && inS a7
def g145 : G1
  | [.agg [.val (.string a0), .val (.string a1), .val (.string a2), .val (.string a3), .val (.string a4), .val (.string a5), .val (.string a6), .val (.string a7)], .val (.int .i64 l)], [], k =>
    br (in8 a0 a1 a2 a3 a4 a5 a6 a7 && inL l) (k ⟨.val (.int .i64 (szR l (sz8 a0 a1 a2 a3 a4 a5 a6 a7))), [], []⟩) False
  | _, _, _ => False
abbrev kb : List CK := [.str, .int .i64, .str, .str, .str, .str, .str, .str, .str, .str, .str]
def szB (e : Elem kb) : Nat := e.1.size + e.2.2.1.size + sz8 e.2.2.2.1 e.2.2.2.2.1 e.2.2.2.2.2.1 e.2.2.2.2.2.2.1 e.2.2.2.2.2.2.2.1 e.2.2.2.2.2.2.2.2.1 e.2.2.2.2.2.2.2.2.2.1 e.2.2.2.2.2.2.2.2.2.2.1
def inB (e : Elem kb) : Bool := inS e.1 && inS e.2.2.1 && in8 e.2.2.2.1 e.2.2.2.2.1 e.2.2.2.2.2.1 e.2.2.2.2.2.2.1 e.2.2.2.2.2.2.2.1 e.2.2.2.2.2.2.2.2.1 e.2.2.2.2.2.2.2.2.2.1 e.2.2.2.2.2.2.2.2.2.2.1
def g123 : G1
  | [.agg [.val (.string b), .val (.int .i64 n), .val (.string c), .val (.string a0), .val (.string a1), .val (.string a2), .val (.string a3), .val (.string a4), .val (.string a5), .val (.string a6), .val (.string a7)], .val (.int .i64 l)], [], k =>
    br (inB (b, n, c, a0, a1, a2, a3, a4, a5, a6, a7, ()) && inL l) (k ⟨.val (.int .i64 (szR l (szB (b, n, c, a0, a1, a2, a3, a4, a5, a6, a7, ())))), [], []⟩) False
  | _, _, _ => False
def szBs (xs : List (Elem kb)) : Nat := xs.length + (xs.map szB).sum
def inBs (xs : List (Elem kb)) : Bool := decide (xs.length ≤ 9223372036854775807) && xs.all inB
def g74 : G1
  | [.rsl [.str, .int .i64, .str, .str, .str, .str, .str, .str, .str, .str, .str] xs, .val (.int .i64 l)], [], k => br (inBs xs && inL l) (k ⟨.val (.int .i64 (szR l (szBs xs))), [], []⟩) False
  | _, _, _ => False
def g30 : G1
  | [.agg [.rsl [.str, .int .i64, .str, .str, .str, .str, .str, .str, .str, .str, .str] xs], .val (.int .i64 l)], [], k => br (inBs xs && inL l) (k ⟨.val (.int .i64 (szR l (szBs xs))), [], []⟩) False
  | _, _, _ => False
noncomputable def E145 : Env := E0.of Try.f145
noncomputable def G145 : Gk := gk []
noncomputable def lp145 (n : Nat) : Code := (loopOf n (codeOf Try.f145)).getD .skip
noncomputable def ct145 (L : Lp) (R : Option Res → Prop) (n : Nat) : Kt := contOf E145 G145 L n (codeOf Try.f145) (endK E145 Try.f145.results.toList R)
noncomputable def rk145 (L : Lp) (R : Option Res → Prop) (n : Nat) (N : St → Prop) : Kt := rk (jof E145 (lp145 n)) N (ct145 L R n)
noncomputable def LOOP145 (L : Lp) (R : Option Res → Prop) (n : Nat) (st : St) : Prop := L (lp145 n) st (ct145 L R n)
theorem hg145 : HG Try.prog G145 := hg_nil
theorem okf145 : Ok Try.prog E145 := ok0.of Try.f145
theorem e145 (L : Lp) (R : Option Res → Prop) (a0 a1 a2 a3 a4 a5 a6 a7 : ByteArray) (l : Int) : (bodyP E0 G145 L Try.f145 [s8 a0 a1 a2 a3 a4 a5 a6 a7, .val (.int .i64 l)] [] R) = (
    LOOP145 L R 2
      {
        tm :=
          [AV.agg
              [AV.val (Value.string a0), AV.val (Value.string a1), AV.val (Value.string a2), AV.val (Value.string a3),
                AV.val (Value.string a4), AV.val (Value.string a5), AV.val (Value.string a6), AV.val (Value.string a7)],
            AV.val (Value.int IntKind.i64 l), AV.ptr 0 0, AV.val (Value.tuple #[]), AV.val (Value.int IntKind.i64 0),
            AV.val (Value.int IntKind.i64 0), AV.junk, AV.junk, AV.junk, AV.junk, AV.junk, AV.junk, AV.junk, AV.junk,
            AV.junk, AV.junk, AV.junk, AV.junk, AV.val (Value.tuple #[])],
        ob :=
          [(0,
              AO.box
                [AV.val (Value.string a0), AV.val (Value.string a1), AV.val (Value.string a2), AV.val (Value.string a3),
                  AV.val (Value.string a4), AV.val (Value.string a5), AV.val (Value.string a6), AV.val (Value.string a7)])],
        nx := 1000000, ps := [] }) := by kernel_rfl
def st145 (a0 a1 a2 a3 a4 a5 a6 a7 : ByteArray) (i l : Int) : St :=
  ⟨[AV.agg [AV.val (Value.string a0), AV.val (Value.string a1), AV.val (Value.string a2), AV.val (Value.string a3), AV.val (Value.string a4), AV.val (Value.string a5), AV.val (Value.string a6), AV.val (Value.string a7)], .val (.int .i64 l), AV.ptr 0 0, AV.val (Value.tuple #[]), AV.val (Value.int IntKind.i64 0), .val (.int .i64 i), AV.junk, AV.junk, AV.junk, AV.junk, AV.junk, AV.junk, AV.junk, AV.junk, AV.junk, AV.junk, AV.junk, AV.junk, AV.val (Value.tuple #[])],
    [(0, AO.box [AV.val (Value.string a0), AV.val (Value.string a1), AV.val (Value.string a2), AV.val (Value.string a3), AV.val (Value.string a4), AV.val (Value.string a5), AV.val (Value.string a6), AV.val (Value.string a7)])], 1000000, []⟩
theorem b145_0 (L : Lp) (R : Option Res → Prop) (N : St → Prop) (a0 a1 a2 a3 a4 a5 a6 a7 : ByteArray) (l : Int) : (evP E145 G145 L (lp145 2) (st145 a0 a1 a2 a3 a4 a5 a6 a7 0 l) (rk145 L R 2 N)) = (
    br (decide (IntKind.i64.wrap (l - (↑a0.size : Int)) < 0))
      (R (some { av := AV.val (Value.int IntKind.i64 (-1)), obs := [], outs := [] }))
      (N
        {
          tm :=
            [AV.agg
                [AV.val (Value.string a0), AV.val (Value.string a1), AV.val (Value.string a2), AV.val (Value.string a3),
                  AV.val (Value.string a4), AV.val (Value.string a5), AV.val (Value.string a6), AV.val (Value.string a7)],
              AV.val (Value.int IntKind.i64 (IntKind.i64.wrap (l - (↑a0.size : Int)))), AV.ptr 0 0,
              AV.val (Value.tuple #[]), AV.val (Value.int IntKind.i64 0), AV.val (Value.int IntKind.i64 1), AV.junk,
              AV.junk, AV.junk, AV.junk, AV.junk, AV.junk, AV.junk, AV.junk, AV.junk, AV.junk, AV.junk, AV.junk,
              AV.val (Value.tuple #[])],
          ob :=
            [(0,
                AO.box
                  [AV.val (Value.string a0), AV.val (Value.string a1), AV.val (Value.string a2), AV.val (Value.string a3),
                    AV.val (Value.string a4), AV.val (Value.string a5), AV.val (Value.string a6),
                    AV.val (Value.string a7)])],
          nx := 1000000, ps := [] })) := by kernel_rfl
theorem b145_1 (L : Lp) (R : Option Res → Prop) (N : St → Prop) (a0 a1 a2 a3 a4 a5 a6 a7 : ByteArray) (l : Int) : (evP E145 G145 L (lp145 2) (st145 a0 a1 a2 a3 a4 a5 a6 a7 1 l) (rk145 L R 2 N)) = (
    br (decide (IntKind.i64.wrap (l - (↑a1.size : Int)) < 0))
      (R (some { av := AV.val (Value.int IntKind.i64 (-1)), obs := [], outs := [] }))
      (N
        {
          tm :=
            [AV.agg
                [AV.val (Value.string a0), AV.val (Value.string a1), AV.val (Value.string a2), AV.val (Value.string a3),
                  AV.val (Value.string a4), AV.val (Value.string a5), AV.val (Value.string a6), AV.val (Value.string a7)],
              AV.val (Value.int IntKind.i64 (IntKind.i64.wrap (l - (↑a1.size : Int)))), AV.ptr 0 0,
              AV.val (Value.tuple #[]), AV.val (Value.int IntKind.i64 0), AV.val (Value.int IntKind.i64 2), AV.junk,
              AV.junk, AV.junk, AV.junk, AV.junk, AV.junk, AV.junk, AV.junk, AV.junk, AV.junk, AV.junk, AV.junk,
              AV.val (Value.tuple #[])],
          ob :=
            [(0,
                AO.box
                  [AV.val (Value.string a0), AV.val (Value.string a1), AV.val (Value.string a2), AV.val (Value.string a3),
                    AV.val (Value.string a4), AV.val (Value.string a5), AV.val (Value.string a6),
                    AV.val (Value.string a7)])],
          nx := 1000000, ps := [] })) := by kernel_rfl
theorem b145_2 (L : Lp) (R : Option Res → Prop) (N : St → Prop) (a0 a1 a2 a3 a4 a5 a6 a7 : ByteArray) (l : Int) : (evP E145 G145 L (lp145 2) (st145 a0 a1 a2 a3 a4 a5 a6 a7 2 l) (rk145 L R 2 N)) = (
    br (decide (IntKind.i64.wrap (l - (↑a2.size : Int)) < 0))
      (R (some { av := AV.val (Value.int IntKind.i64 (-1)), obs := [], outs := [] }))
      (N
        {
          tm :=
            [AV.agg
                [AV.val (Value.string a0), AV.val (Value.string a1), AV.val (Value.string a2), AV.val (Value.string a3),
                  AV.val (Value.string a4), AV.val (Value.string a5), AV.val (Value.string a6), AV.val (Value.string a7)],
              AV.val (Value.int IntKind.i64 (IntKind.i64.wrap (l - (↑a2.size : Int)))), AV.ptr 0 0,
              AV.val (Value.tuple #[]), AV.val (Value.int IntKind.i64 0), AV.val (Value.int IntKind.i64 3), AV.junk,
              AV.junk, AV.junk, AV.junk, AV.junk, AV.junk, AV.junk, AV.junk, AV.junk, AV.junk, AV.junk, AV.junk,
              AV.val (Value.tuple #[])],
          ob :=
            [(0,
                AO.box
                  [AV.val (Value.string a0), AV.val (Value.string a1), AV.val (Value.string a2), AV.val (Value.string a3),
                    AV.val (Value.string a4), AV.val (Value.string a5), AV.val (Value.string a6),
                    AV.val (Value.string a7)])],
          nx := 1000000, ps := [] })) := by kernel_rfl
theorem b145_3 (L : Lp) (R : Option Res → Prop) (N : St → Prop) (a0 a1 a2 a3 a4 a5 a6 a7 : ByteArray) (l : Int) : (evP E145 G145 L (lp145 2) (st145 a0 a1 a2 a3 a4 a5 a6 a7 3 l) (rk145 L R 2 N)) = (
    br (decide (IntKind.i64.wrap (l - (↑a3.size : Int)) < 0))
      (R (some { av := AV.val (Value.int IntKind.i64 (-1)), obs := [], outs := [] }))
      (N
        {
          tm :=
            [AV.agg
                [AV.val (Value.string a0), AV.val (Value.string a1), AV.val (Value.string a2), AV.val (Value.string a3),
                  AV.val (Value.string a4), AV.val (Value.string a5), AV.val (Value.string a6), AV.val (Value.string a7)],
              AV.val (Value.int IntKind.i64 (IntKind.i64.wrap (l - (↑a3.size : Int)))), AV.ptr 0 0,
              AV.val (Value.tuple #[]), AV.val (Value.int IntKind.i64 0), AV.val (Value.int IntKind.i64 4), AV.junk,
              AV.junk, AV.junk, AV.junk, AV.junk, AV.junk, AV.junk, AV.junk, AV.junk, AV.junk, AV.junk, AV.junk,
              AV.val (Value.tuple #[])],
          ob :=
            [(0,
                AO.box
                  [AV.val (Value.string a0), AV.val (Value.string a1), AV.val (Value.string a2), AV.val (Value.string a3),
                    AV.val (Value.string a4), AV.val (Value.string a5), AV.val (Value.string a6),
                    AV.val (Value.string a7)])],
          nx := 1000000, ps := [] })) := by kernel_rfl
theorem b145_4 (L : Lp) (R : Option Res → Prop) (N : St → Prop) (a0 a1 a2 a3 a4 a5 a6 a7 : ByteArray) (l : Int) : (evP E145 G145 L (lp145 2) (st145 a0 a1 a2 a3 a4 a5 a6 a7 4 l) (rk145 L R 2 N)) = (
    br (decide (IntKind.i64.wrap (l - (↑a4.size : Int)) < 0))
      (R (some { av := AV.val (Value.int IntKind.i64 (-1)), obs := [], outs := [] }))
      (N
        {
          tm :=
            [AV.agg
                [AV.val (Value.string a0), AV.val (Value.string a1), AV.val (Value.string a2), AV.val (Value.string a3),
                  AV.val (Value.string a4), AV.val (Value.string a5), AV.val (Value.string a6), AV.val (Value.string a7)],
              AV.val (Value.int IntKind.i64 (IntKind.i64.wrap (l - (↑a4.size : Int)))), AV.ptr 0 0,
              AV.val (Value.tuple #[]), AV.val (Value.int IntKind.i64 0), AV.val (Value.int IntKind.i64 5), AV.junk,
              AV.junk, AV.junk, AV.junk, AV.junk, AV.junk, AV.junk, AV.junk, AV.junk, AV.junk, AV.junk, AV.junk,
              AV.val (Value.tuple #[])],
          ob :=
            [(0,
                AO.box
                  [AV.val (Value.string a0), AV.val (Value.string a1), AV.val (Value.string a2), AV.val (Value.string a3),
                    AV.val (Value.string a4), AV.val (Value.string a5), AV.val (Value.string a6),
                    AV.val (Value.string a7)])],
          nx := 1000000, ps := [] })) := by kernel_rfl
theorem b145_5 (L : Lp) (R : Option Res → Prop) (N : St → Prop) (a0 a1 a2 a3 a4 a5 a6 a7 : ByteArray) (l : Int) : (evP E145 G145 L (lp145 2) (st145 a0 a1 a2 a3 a4 a5 a6 a7 5 l) (rk145 L R 2 N)) = (
    br (decide (IntKind.i64.wrap (l - (↑a5.size : Int)) < 0))
      (R (some { av := AV.val (Value.int IntKind.i64 (-1)), obs := [], outs := [] }))
      (N
        {
          tm :=
            [AV.agg
                [AV.val (Value.string a0), AV.val (Value.string a1), AV.val (Value.string a2), AV.val (Value.string a3),
                  AV.val (Value.string a4), AV.val (Value.string a5), AV.val (Value.string a6), AV.val (Value.string a7)],
              AV.val (Value.int IntKind.i64 (IntKind.i64.wrap (l - (↑a5.size : Int)))), AV.ptr 0 0,
              AV.val (Value.tuple #[]), AV.val (Value.int IntKind.i64 0), AV.val (Value.int IntKind.i64 6), AV.junk,
              AV.junk, AV.junk, AV.junk, AV.junk, AV.junk, AV.junk, AV.junk, AV.junk, AV.junk, AV.junk, AV.junk,
              AV.val (Value.tuple #[])],
          ob :=
            [(0,
                AO.box
                  [AV.val (Value.string a0), AV.val (Value.string a1), AV.val (Value.string a2), AV.val (Value.string a3),
                    AV.val (Value.string a4), AV.val (Value.string a5), AV.val (Value.string a6),
                    AV.val (Value.string a7)])],
          nx := 1000000, ps := [] })) := by kernel_rfl
theorem b145_6 (L : Lp) (R : Option Res → Prop) (N : St → Prop) (a0 a1 a2 a3 a4 a5 a6 a7 : ByteArray) (l : Int) : (evP E145 G145 L (lp145 2) (st145 a0 a1 a2 a3 a4 a5 a6 a7 6 l) (rk145 L R 2 N)) = (
    br (decide (IntKind.i64.wrap (l - (↑a6.size : Int)) < 0))
      (R (some { av := AV.val (Value.int IntKind.i64 (-1)), obs := [], outs := [] }))
      (N
        {
          tm :=
            [AV.agg
                [AV.val (Value.string a0), AV.val (Value.string a1), AV.val (Value.string a2), AV.val (Value.string a3),
                  AV.val (Value.string a4), AV.val (Value.string a5), AV.val (Value.string a6), AV.val (Value.string a7)],
              AV.val (Value.int IntKind.i64 (IntKind.i64.wrap (l - (↑a6.size : Int)))), AV.ptr 0 0,
              AV.val (Value.tuple #[]), AV.val (Value.int IntKind.i64 0), AV.val (Value.int IntKind.i64 7), AV.junk,
              AV.junk, AV.junk, AV.junk, AV.junk, AV.junk, AV.junk, AV.junk, AV.junk, AV.junk, AV.junk, AV.junk,
              AV.val (Value.tuple #[])],
          ob :=
            [(0,
                AO.box
                  [AV.val (Value.string a0), AV.val (Value.string a1), AV.val (Value.string a2), AV.val (Value.string a3),
                    AV.val (Value.string a4), AV.val (Value.string a5), AV.val (Value.string a6),
                    AV.val (Value.string a7)])],
          nx := 1000000, ps := [] })) := by kernel_rfl
theorem b145_7 (L : Lp) (R : Option Res → Prop) (N : St → Prop) (a0 a1 a2 a3 a4 a5 a6 a7 : ByteArray) (l : Int) : (evP E145 G145 L (lp145 2) (st145 a0 a1 a2 a3 a4 a5 a6 a7 7 l) (rk145 L R 2 N)) = (
    br (decide (IntKind.i64.wrap (l - (↑a7.size : Int)) < 0))
      (R (some { av := AV.val (Value.int IntKind.i64 (-1)), obs := [], outs := [] }))
      (N
        {
          tm :=
            [AV.agg
                [AV.val (Value.string a0), AV.val (Value.string a1), AV.val (Value.string a2), AV.val (Value.string a3),
                  AV.val (Value.string a4), AV.val (Value.string a5), AV.val (Value.string a6), AV.val (Value.string a7)],
              AV.val (Value.int IntKind.i64 (IntKind.i64.wrap (l - (↑a7.size : Int)))), AV.ptr 0 0,
              AV.val (Value.tuple #[]), AV.val (Value.int IntKind.i64 0), AV.val (Value.int IntKind.i64 8), AV.junk,
              AV.junk, AV.junk, AV.junk, AV.junk, AV.junk, AV.junk, AV.junk, AV.junk, AV.junk, AV.junk, AV.junk,
              AV.val (Value.tuple #[])],
          ob :=
            [(0,
                AO.box
                  [AV.val (Value.string a0), AV.val (Value.string a1), AV.val (Value.string a2), AV.val (Value.string a3),
                    AV.val (Value.string a4), AV.val (Value.string a5), AV.val (Value.string a6),
                    AV.val (Value.string a7)])],
          nx := 1000000, ps := [] })) := by kernel_rfl
theorem b145_8 (L : Lp) (R : Option Res → Prop) (N : St → Prop) (a0 a1 a2 a3 a4 a5 a6 a7 : ByteArray) (l : Int) : (evP E145 G145 L (lp145 2) (st145 a0 a1 a2 a3 a4 a5 a6 a7 8 l) (rk145 L R 2 N)) = (
    R (some { av := AV.val (Value.int IntKind.i64 l), obs := [], outs := [] })) := by kernel_rfl
def pre8 (a0 a1 a2 a3 a4 a5 a6 a7 : ByteArray) (i : Nat) : Nat := (([a0, a1, a2, a3, a4, a5, a6, a7].take i).map (·.size)).sum
theorem h145 : G1Ok Try.prog 145 g145 := by
  intro args obs k h
  unfold g145 at h
  split at h
  · rename_i k a0 a1 a2 a3 a4 a5 a6 a7 l
    obtain ⟨hp, h⟩ := br_and h
    simp only [in8, inS, inL, Bool.and_eq_true, decide_eq_true_eq] at hp
    obtain ⟨⟨⟨⟨⟨⟨⟨⟨p0, p1⟩, p2⟩, p3⟩, p4⟩, p5⟩, p6⟩, p7⟩, pl⟩ := hp
    refine ⟨_, ctr_fn ok0 hg145 Try.func145 (by kernel_rfl) (by kernel_rfl) (by kernel_rfl) fun C => ?_, h⟩
    rw [e145]
    exact loopR okf145 hg145 (ι := {p : Nat × Int // p.1 ≤ 8 ∧ 0 ≤ p.2 ∧ p.2 = l - pre8 a0 a1 a2 a3 a4 a5 a6 a7 p.1}) (fun p => st145 a0 a1 a2 a3 a4 a5 a6 a7 p.1.1 p.1.2) (fun p => 8 - p.1.1) (fun ⟨(i, m), h0, h1, h2⟩ => by
      show evP E145 G145 _ (lp145 2) (st145 a0 a1 a2 a3 a4 a5 a6 a7 i m) (rk145 _ _ 2 _)
      simp only at h0 h1 h2
      have neg : ∀ (a : ByteArray), a.size ≤ 9223372036854775807 → pre8 a0 a1 a2 a3 a4 a5 a6 a7 i + a.size ≤ sz8 a0 a1 a2 a3 a4 a5 a6 a7 → decide (IntKind.i64.wrap (m - (a.size : Int)) < 0) = true →
          (some ⟨.val (.int .i64 (-1)), [], []⟩ : Option Res) = some ⟨.val (.int .i64 (szR l (sz8 a0 a1 a2 a3 a4 a5 a6 a7))), [], []⟩ := by
        intro a ha hle h3
        rw [wrap_id (n := m - (a.size : Int)) (by omega) (by omega)] at h3
        simp only [decide_eq_true_eq] at h3
        have : szR l (sz8 a0 a1 a2 a3 a4 a5 a6 a7) = -1 := by unfold szR; rw [if_neg (by omega)]
        rw [this]
      have pos : ∀ (a : ByteArray), a.size ≤ 9223372036854775807 → pre8 a0 a1 a2 a3 a4 a5 a6 a7 (i + 1) = pre8 a0 a1 a2 a3 a4 a5 a6 a7 i + a.size → i < 8 → decide (IntKind.i64.wrap (m - (a.size : Int)) < 0) = false →
          ∃ j : {p : Nat × Int // p.1 ≤ 8 ∧ 0 ≤ p.2 ∧ p.2 = l - pre8 a0 a1 a2 a3 a4 a5 a6 a7 p.1}, st145 a0 a1 a2 a3 a4 a5 a6 a7 ((i + 1 : Nat) : Int) (IntKind.i64.wrap (m - (a.size : Int))) = st145 a0 a1 a2 a3 a4 a5 a6 a7 j.1.1 j.1.2 ∧ 8 - j.1.1 < 8 - i := by
        intro a ha hs hi h3
        have hw := wrap_id (n := m - (a.size : Int)) (by omega) (by omega)
        rw [hw] at h3 ⊢
        simp only [decide_eq_false_iff_not] at h3
        exact ⟨⟨(i + 1, m - a.size), by show i + 1 ≤ 8; omega, by show 0 ≤ m - (a.size : Int); omega, by show m - (a.size : Int) = l - (pre8 a0 a1 a2 a3 a4 a5 a6 a7 (i + 1) : Nat); omega⟩, rfl, by show 8 - (i + 1) < 8 - i; omega⟩
      have cs : i = 0 ∨ i = 1 ∨ i = 2 ∨ i = 3 ∨ i = 4 ∨ i = 5 ∨ i = 6 ∨ i = 7 ∨ i = 8 := by omega
      rcases cs with rfl | rfl | rfl | rfl | rfl | rfl | rfl | rfl | rfl
      · show evP E145 G145 _ (lp145 2) (st145 a0 a1 a2 a3 a4 a5 a6 a7 0 m) (rk145 _ _ 2 _)
        rw [b145_0]
        exact br_intro (fun h3 => neg a0 p0 (by simp [pre8, sz8]; omega) h3) (fun h3 => pos a0 p0 (by simp [pre8]) (by omega) h3)
      · show evP E145 G145 _ (lp145 2) (st145 a0 a1 a2 a3 a4 a5 a6 a7 1 m) (rk145 _ _ 2 _)
        rw [b145_1]
        exact br_intro (fun h3 => neg a1 p1 (by simp [pre8, sz8]; omega) h3) (fun h3 => pos a1 p1 (by simp [pre8]) (by omega) h3)
      · show evP E145 G145 _ (lp145 2) (st145 a0 a1 a2 a3 a4 a5 a6 a7 2 m) (rk145 _ _ 2 _)
        rw [b145_2]
        exact br_intro (fun h3 => neg a2 p2 (by simp [pre8, sz8]; omega) h3) (fun h3 => pos a2 p2 (by simp [pre8]; omega) (by omega) h3)
      · show evP E145 G145 _ (lp145 2) (st145 a0 a1 a2 a3 a4 a5 a6 a7 3 m) (rk145 _ _ 2 _)
        rw [b145_3]
        exact br_intro (fun h3 => neg a3 p3 (by simp [pre8, sz8]; omega) h3) (fun h3 => pos a3 p3 (by simp [pre8]; omega) (by omega) h3)
      · show evP E145 G145 _ (lp145 2) (st145 a0 a1 a2 a3 a4 a5 a6 a7 4 m) (rk145 _ _ 2 _)
        rw [b145_4]
        exact br_intro (fun h3 => neg a4 p4 (by simp [pre8, sz8]; omega) h3) (fun h3 => pos a4 p4 (by simp [pre8]; omega) (by omega) h3)
      · show evP E145 G145 _ (lp145 2) (st145 a0 a1 a2 a3 a4 a5 a6 a7 5 m) (rk145 _ _ 2 _)
        rw [b145_5]
        exact br_intro (fun h3 => neg a5 p5 (by simp [pre8, sz8]; omega) h3) (fun h3 => pos a5 p5 (by simp [pre8]; omega) (by omega) h3)
      · show evP E145 G145 _ (lp145 2) (st145 a0 a1 a2 a3 a4 a5 a6 a7 6 m) (rk145 _ _ 2 _)
        rw [b145_6]
        exact br_intro (fun h3 => neg a6 p6 (by simp [pre8, sz8]; omega) h3) (fun h3 => pos a6 p6 (by simp [pre8]; omega) (by omega) h3)
      · show evP E145 G145 _ (lp145 2) (st145 a0 a1 a2 a3 a4 a5 a6 a7 7 m) (rk145 _ _ 2 _)
        rw [b145_7]
        exact br_intro (fun h3 => neg a7 p7 (by simp [pre8, sz8]; omega) h3) (fun h3 => pos a7 p7 (by simp [pre8]; omega) (by omega) h3)
      · show evP E145 G145 _ (lp145 2) (st145 a0 a1 a2 a3 a4 a5 a6 a7 8 m) (rk145 _ _ 2 _)
        rw [b145_8]
        show _ = _
        have e : pre8 a0 a1 a2 a3 a4 a5 a6 a7 8 = sz8 a0 a1 a2 a3 a4 a5 a6 a7 := by simp [pre8, sz8]; omega
        have : szR l (sz8 a0 a1 a2 a3 a4 a5 a6 a7) = m := by unfold szR; rw [if_pos (by omega)]; omega
        rw [this]) ⟨(0, l), by simp, pl.1, by simp [pre8]⟩
  · exact h.elim
noncomputable def E123 : Env := E0.of Try.f123
noncomputable def G123 : Gk := gk [(145, g145)]
noncomputable def lp123 (n : Nat) : Code := (loopOf n (codeOf Try.f123)).getD .skip
noncomputable def ct123 (L : Lp) (R : Option Res → Prop) (n : Nat) : Kt := contOf E123 G123 L n (codeOf Try.f123) (endK E123 Try.f123.results.toList R)
noncomputable def rk123 (L : Lp) (R : Option Res → Prop) (n : Nat) (N : St → Prop) : Kt := rk (jof E123 (lp123 n)) N (ct123 L R n)
noncomputable def LOOP123 (L : Lp) (R : Option Res → Prop) (n : Nat) (st : St) : Prop := L (lp123 n) st (ct123 L R n)
theorem hg123 : HG Try.prog G123 := (hg_cons h145 hg_nil)
theorem okf123 : Ok Try.prog E123 := ok0.of Try.f123
theorem e123 (L : Lp) (R : Option Res → Prop) (b c a0 a1 a2 a3 a4 a5 a6 a7 : ByteArray) (n l : Int) : (bodyP E0 G123 L Try.f123 [.agg [.val (.string b), .val (.int .i64 n), .val (.string c), .val (.string a0), .val (.string a1), .val (.string a2), .val (.string a3), .val (.string a4), .val (.string a5), .val (.string a6), .val (.string a7)], .val (.int .i64 l)] [] R) = (
    br (decide (IntKind.i64.wrap (l - (↑b.size : Int)) < 0))
      (R (some { av := AV.val (Value.int IntKind.i64 (-1)), obs := [], outs := [] }))
      (br (decide (IntKind.i64.wrap (IntKind.i64.wrap (l - (↑b.size : Int)) - (↑c.size : Int)) < 0))
        (R (some { av := AV.val (Value.int IntKind.i64 (-1)), obs := [], outs := [] }))
        (br
          (in8 a0 a1 a2 a3 a4 a5 a6 a7 && inL (IntKind.i64.wrap (IntKind.i64.wrap (l - (↑b.size : Int)) - (↑c.size : Int))))
          (br
            (decide
              (szR (IntKind.i64.wrap (IntKind.i64.wrap (l - (↑b.size : Int)) - (↑c.size : Int)))
                  (sz8 a0 a1 a2 a3 a4 a5 a6 a7) <
                0))
            (R (some { av := AV.val (Value.int IntKind.i64 (-1)), obs := [], outs := [] }))
            (R
              (some
                {
                  av :=
                    AV.val
                      (Value.int IntKind.i64
                        (szR (IntKind.i64.wrap (IntKind.i64.wrap (l - (↑b.size : Int)) - (↑c.size : Int)))
                          (sz8 a0 a1 a2 a3 a4 a5 a6 a7))),
                  obs := [], outs := [] })))
          False))) := by kernel_rfl
theorem h123 : G1Ok Try.prog 123 g123 := by
  intro args obs k h
  unfold g123 at h
  split at h
  · rename_i k b n c a0 a1 a2 a3 a4 a5 a6 a7 l
    obtain ⟨hp, h⟩ := br_and h
    rw [Bool.and_eq_true] at hp
    obtain ⟨hB, hl⟩ := hp
    simp only [inL, decide_eq_true_eq] at hl
    unfold inB at hB
    rw [Bool.and_eq_true, Bool.and_eq_true] at hB
    obtain ⟨⟨pb, pc⟩, p8⟩ := hB
    simp only [inS, decide_eq_true_eq] at pb pc
    refine ⟨_, ctr_fn ok0 hg123 Try.func123 (by kernel_rfl) (by kernel_rfl) (by kernel_rfl) fun C => ?_, h⟩
    rw [e123]
    have hs : szB (b, n, c, a0, a1, a2, a3, a4, a5, a6, a7, ()) = b.size + c.size + sz8 a0 a1 a2 a3 a4 a5 a6 a7 := rfl
    rw [hs]
    have w1 : IntKind.i64.wrap (l - (b.size : Int)) = l - b.size := wrap_id (by omega) (by omega)
    rw [w1]
    refine br_intro (fun h => ?_) (fun h => ?_)
    · simp only [decide_eq_true_eq] at h
      show _ = _
      rw [show szR l _ = -1 from if_neg (by omega)]
    simp only [decide_eq_false_iff_not] at h
    have w2 : IntKind.i64.wrap (l - (b.size : Int) - c.size) = l - b.size - c.size := wrap_id (by omega) (by omega)
    rw [w2]
    refine br_intro (fun h => ?_) (fun h => ?_)
    · simp only [decide_eq_true_eq] at h
      show _ = _
      rw [show szR l _ = -1 from if_neg (by omega)]
    simp only [decide_eq_false_iff_not] at h
    refine br_intro (fun _ => ?_) (fun h => ?_)
    · refine br_intro (fun h => ?_) (fun h => ?_)
      · simp only [decide_eq_true_eq] at h
        show _ = _
        unfold szR at h ⊢
        split at h
        · omega
        · rw [if_neg (by omega)]
      · simp only [decide_eq_false_iff_not] at h
        show _ = _
        unfold szR at h ⊢
        split at h
        · rename_i h2
          rw [if_pos h2, if_pos (by omega)]
          congr 4
          omega
        · exact absurd (by omega) h
    · exfalso
      have : (in8 a0 a1 a2 a3 a4 a5 a6 a7 && inL (l - b.size - c.size)) = true := by
        rw [Bool.and_eq_true]
        exact ⟨p8, by simp only [inL, decide_eq_true_eq]; omega⟩
      rw [this] at h
      cases h
  · exact h.elim
noncomputable def E74 : Env := E0.of Try.f74
noncomputable def G74 : Gk := gk [(123, g123)]
noncomputable def lp74 (n : Nat) : Code := (loopOf n (codeOf Try.f74)).getD .skip
noncomputable def ct74 (L : Lp) (R : Option Res → Prop) (n : Nat) : Kt := contOf E74 G74 L n (codeOf Try.f74) (endK E74 Try.f74.results.toList R)
noncomputable def rk74 (L : Lp) (R : Option Res → Prop) (n : Nat) (N : St → Prop) : Kt := rk (jof E74 (lp74 n)) N (ct74 L R n)
noncomputable def LOOP74 (L : Lp) (R : Option Res → Prop) (n : Nat) (st : St) : Prop := L (lp74 n) st (ct74 L R n)
theorem hg74 : HG Try.prog G74 := (hg_cons h123 hg_nil)
theorem okf74 : Ok Try.prog E74 := ok0.of Try.f74
theorem e74 (L : Lp) (R : Option Res → Prop) (xs : List (Elem kb)) (l : Int) : (bodyP E0 G74 L Try.f74 [.rsl kb xs, .val (.int .i64 l)] [] R) = (
    br (decide (IntKind.i64.wrap (l - (↑xs.length : Int)) < 0))
      (R (some { av := AV.val (Value.int IntKind.i64 (-1)), obs := [], outs := [] }))
      (LOOP74 L R 5
        {
          tm :=
            [AV.rsl [CK.str, CK.int IntKind.i64, CK.str, CK.str, CK.str, CK.str, CK.str, CK.str, CK.str, CK.str, CK.str] xs,
              AV.val (Value.int IntKind.i64 (IntKind.i64.wrap (l - (↑xs.length : Int)))), AV.val (Value.tuple #[]),
              AV.val (Value.tuple #[]), AV.val (Value.int IntKind.i64 0), AV.val (Value.int IntKind.i64 0),
              AV.val (Value.int IntKind.i64 l),
              AV.rsl [CK.str, CK.int IntKind.i64, CK.str, CK.str, CK.str, CK.str, CK.str, CK.str, CK.str, CK.str, CK.str]
                xs,
              AV.val (Value.int IntKind.i64 (↑xs.length : Int)),
              AV.val (Value.int IntKind.i64 (IntKind.i64.wrap (l - (↑xs.length : Int)))),
              AV.val (Value.int IntKind.i64 (IntKind.i64.wrap (l - (↑xs.length : Int)))),
              AV.val (Value.bool (decide (IntKind.i64.wrap (l - (↑xs.length : Int)) < 0))), AV.junk, AV.junk, AV.junk,
              AV.junk, AV.junk, AV.junk, AV.junk, AV.junk, AV.junk, AV.junk, AV.junk, AV.junk, AV.junk, AV.junk,
              AV.val (Value.tuple #[])],
          ob := [], nx := 1000000, ps := [] })) := by kernel_rfl
def st74 (xs : List (Elem kb)) (l m i : Int) : St :=
  ⟨[AV.rsl [CK.str, CK.int IntKind.i64, CK.str, CK.str, CK.str, CK.str, CK.str, CK.str, CK.str, CK.str, CK.str] xs, .val (.int .i64 m), AV.val (Value.tuple #[]), AV.val (Value.tuple #[]), AV.val (Value.int IntKind.i64 0), .val (.int .i64 i), AV.val (Value.int IntKind.i64 l), AV.rsl [CK.str, CK.int IntKind.i64, CK.str, CK.str, CK.str, CK.str, CK.str, CK.str, CK.str, CK.str, CK.str] xs, AV.val (Value.int IntKind.i64 (↑xs.length : Int)), AV.val (Value.int IntKind.i64 (IntKind.i64.wrap (l - (↑xs.length : Int)))), AV.val (Value.int IntKind.i64 (IntKind.i64.wrap (l - (↑xs.length : Int)))), AV.val (Value.bool (decide (IntKind.i64.wrap (l - (↑xs.length : Int)) < 0))), AV.junk, AV.junk, AV.junk, AV.junk, AV.junk, AV.junk, AV.junk, AV.junk, AV.junk, AV.junk, AV.junk, AV.junk, AV.junk, AV.junk, AV.val (Value.tuple #[])],
    [], 1000000, []⟩
theorem b74 (L : Lp) (R : Option Res → Prop) (N : St → Prop) (xs : List (Elem kb)) (l m i : Int) : (evP E74 G74 L (lp74 5) (st74 xs l m i) (rk74 L R 5 N)) = (
    br (decide (i < (↑xs.length : Int)))
      (br (decide (0 ≤ i ∧ i < (↑xs.length : Int)))
        (br
          (inB
              (xs.getD i.toNat
                (edflt
                  [CK.str, CK.int IntKind.i64, CK.str, CK.str, CK.str, CK.str, CK.str, CK.str, CK.str, CK.str, CK.str])) &&
            inL m)
          (br
            (decide
              (szR m
                  (szB
                    (xs.getD i.toNat
                      (edflt
                        [CK.str, CK.int IntKind.i64, CK.str, CK.str, CK.str, CK.str, CK.str, CK.str, CK.str, CK.str,
                          CK.str]))) <
                0))
            (R (some { av := AV.val (Value.int IntKind.i64 (-1)), obs := [], outs := [] }))
            (N
              {
                tm :=
                  [AV.rsl
                      [CK.str, CK.int IntKind.i64, CK.str, CK.str, CK.str, CK.str, CK.str, CK.str, CK.str, CK.str, CK.str]
                      xs,
                    AV.val
                      (Value.int IntKind.i64
                        (szR m
                          (szB
                            (xs.getD i.toNat
                              (edflt
                                [CK.str, CK.int IntKind.i64, CK.str, CK.str, CK.str, CK.str, CK.str, CK.str, CK.str, CK.str,
                                  CK.str]))))),
                    AV.val (Value.tuple #[]), AV.val (Value.tuple #[]), AV.val (Value.int IntKind.i64 0),
                    AV.val (Value.int IntKind.i64 (IntKind.i64.wrap (i + 1))), AV.val (Value.int IntKind.i64 l),
                    AV.rsl
                      [CK.str, CK.int IntKind.i64, CK.str, CK.str, CK.str, CK.str, CK.str, CK.str, CK.str, CK.str, CK.str]
                      xs,
                    AV.val (Value.int IntKind.i64 (↑xs.length : Int)),
                    AV.val (Value.int IntKind.i64 (IntKind.i64.wrap (l - (↑xs.length : Int)))),
                    AV.val (Value.int IntKind.i64 (IntKind.i64.wrap (l - (↑xs.length : Int)))),
                    AV.val (Value.bool (decide (IntKind.i64.wrap (l - (↑xs.length : Int)) < 0))), AV.junk, AV.junk, AV.junk,
                    AV.junk, AV.junk, AV.junk, AV.junk, AV.junk, AV.junk, AV.junk, AV.junk, AV.junk, AV.junk, AV.junk,
                    AV.val (Value.tuple #[])],
                ob := [], nx := 1000000, ps := [] }))
          False)
        False)
      (R (some { av := AV.val (Value.int IntKind.i64 m), obs := [], outs := [] }))) := by kernel_rfl
theorem h74 : G1Ok Try.prog 74 g74 := by
  intro args obs k h
  unfold g74 at h
  split at h
  · rename_i k xs l
    obtain ⟨hp, h⟩ := br_and h
    rw [Bool.and_eq_true] at hp
    obtain ⟨hB, hl⟩ := hp
    unfold inBs at hB
    rw [Bool.and_eq_true] at hB
    obtain ⟨hlen, hB⟩ := hB
    simp only [inL, decide_eq_true_eq] at hl hlen
    refine ⟨_, ctr_fn ok0 hg74 Try.func74 (by kernel_rfl) (by kernel_rfl) (by kernel_rfl) fun C => ?_, h⟩
    rw [e74]
    have e : szBs xs = xs.length + (xs.map szB).sum := rfl
    have hw0 := wrap_id (n := l - xs.length) (by omega) (by omega)
    refine br_dec (fun h => ?_) (fun h => ?_) <;> rw [hw0] at h
    · show _ = _
      rw [e, szR_neg (by omega)]
    · exact loopSz okf74 hg74 (fun i m => st74 xs l m i) xs (edflt kb) szB inB l (by omega) hl.2 hB (fun N i m hi h0 h1 hw hpr neg pos done => by
        show evP E74 G74 _ (lp74 5) (st74 xs l m i) (rk74 _ _ 5 _)
        rw [b74, hw, Int.toNat_natCast]
        refine br_dec (fun h => br_yes ⟨by omega, h⟩ (br_t ?_ (br_dec (fun h2 => ?_) (fun h2 => ?_)))) (fun h => ?_)
        · rw [Bool.and_eq_true]
          exact ⟨hpr (by omega), by simp only [inL, decide_eq_true_eq]; omega⟩
        · show _ = _
          rw [e, neg (by omega) (szR_lt0 h2)]
        · rw [szR_pos (szR_ge0 h2)]
          exact pos (by omega) (szR_ge0 h2)
        · show _ = _
          rw [e, done (by omega)]) _ hw0 (by omega)
  · exact h.elim
noncomputable def E30 : Env := E0.of Try.f30
noncomputable def G30 : Gk := gk [(74, g74)]
noncomputable def lp30 (n : Nat) : Code := (loopOf n (codeOf Try.f30)).getD .skip
noncomputable def ct30 (L : Lp) (R : Option Res → Prop) (n : Nat) : Kt := contOf E30 G30 L n (codeOf Try.f30) (endK E30 Try.f30.results.toList R)
noncomputable def rk30 (L : Lp) (R : Option Res → Prop) (n : Nat) (N : St → Prop) : Kt := rk (jof E30 (lp30 n)) N (ct30 L R n)
noncomputable def LOOP30 (L : Lp) (R : Option Res → Prop) (n : Nat) (st : St) : Prop := L (lp30 n) st (ct30 L R n)
theorem hg30 : HG Try.prog G30 := (hg_cons h74 hg_nil)
theorem okf30 : Ok Try.prog E30 := ok0.of Try.f30
theorem e30 (L : Lp) (R : Option Res → Prop) (xs : List (Elem kb)) (l : Int) : (bodyP E0 G30 L Try.f30 [.agg [.rsl kb xs], .val (.int .i64 l)] [] R) = (
    br (inBs xs && inL l)
      (br (decide (szR l (szBs xs) < 0)) (R (some { av := AV.val (Value.int IntKind.i64 (-1)), obs := [], outs := [] }))
        (R (some { av := AV.val (Value.int IntKind.i64 (szR l (szBs xs))), obs := [], outs := [] })))
      False) := by kernel_rfl
theorem h30 : G1Ok Try.prog 30 g30 := by
  intro args obs k h
  unfold g30 at h
  split at h
  · rename_i k xs l
    obtain ⟨hp, h⟩ := br_and h
    refine ⟨_, ctr_fn ok0 hg30 Try.func30 (by kernel_rfl) (by kernel_rfl) (by kernel_rfl) fun C => ?_, h⟩
    rw [e30]
    refine br_t hp (br_dec (fun h2 => ?_) (fun h2 => ?_))
    · show _ = _
      rw [szR_neg (szR_lt0 h2)]
    · rfl
  · exact h.elim
end Go.Proofs.Ytjhjhkphcemcmaa.Ev
