/- Contracts for lists of dedup entries. -/
import Derived.Test.YtjhjhkphcemcmaaF1
namespace Go.Proofs.Ytjhjhkphcemcmaa.Ev
open Go
set_option linter.unusedVariables false
set_option linter.unusedSimpArgs false
set_option maxRecDepth 100000
abbrev k3 : List CK := [.int .i64, .int .i64, .int .i64]
def rows3 (a : Elem k3) : List AV := [.val (.int .i64 a.1), .val (.int .i64 a.2.1), .val (.int .i64 a.2.2.1)]
def within (a b c : Int) : Bool := decide (b ≤ a) && decide (a ≤ c)
def entryOk (a : Elem k3) : Bool := within a.1 0 65520 && within a.2.1 1 119 && within a.2.2.1 1 1000
def g23 : G1
  | [.rsl [.int .i64, .int .i64, .int .i64] xs, .val (.int .i64 l)], [], k =>
    br (decide (IntKind.i64.wrap (l - xs.length) < 0)) (k ⟨.val (.int .i64 (-1)), [], []⟩) (k ⟨.val (.int .i64 (IntKind.i64.wrap (l - xs.length))), [], []⟩)
  | _, _, _ => False
def g69 : G1
  | [.agg [.val (.int .i64 a), .val (.int .i64 b), .val (.int .i64 c)]], [], k => k ⟨.agg [.val (.int .i64 a), .val (.int .i64 b), .val (.int .i64 c)], [], []⟩
  | _, _, _ => False
def g70 : G1
  | [.agg [.val (.int .i64 a), .val (.int .i64 b), .val (.int .i64 c)]], [], k => k ⟨.val (.bool (entryOk (a, b, c, ()))), [], []⟩
  | _, _, _ => False
def g71 : G1
  | [.agg [.val (.int .i64 a), .val (.int .i64 b), .val (.int .i64 c)], .agg [.val (.int .i64 a'), .val (.int .i64 b'), .val (.int .i64 c')]], [], k => k ⟨.val (.bool (a == a' && b == b' && c == c')), [], []⟩
  | _, _, _ => False
def at3 (xs : List (Elem k3)) (i : Nat) : Elem k3 := xs.getD i (edflt k3)
def okAt (xs : List (Elem k3)) (i : Nat) : Bool := entryOk (at3 xs i) && (i == 0 || decide ((at3 xs (i - 1)).2.1 < (at3 xs i).2.1))
def ddtOk (xs : List (Elem k3)) : Bool := decide (xs.length ≤ 48) && (List.range xs.length).all (okAt xs)
def eq3 (a b : Elem k3) : Bool := a.1 == b.1 && a.2.1 == b.2.1 && a.2.2.1 == b.2.2.1
def eqF (xs ys : List (Elem k3)) : Bool := decide (xs.length = ys.length) && (List.range xs.length).all fun i => eq3 (at3 xs i) (at3 ys i)
def g25 : G1
  | [.rsl [.int .i64, .int .i64, .int .i64] xs], [], k => br (decide (xs.length ≤ 1048576)) (k ⟨.ows 0, [.row [.int .i64, .int .i64, .int .i64] xs], []⟩) False
  | _, _, _ => False
def g26 : G1
  | [.rsl [.int .i64, .int .i64, .int .i64] xs], [], k => br (decide (xs.length ≤ 1048576)) (k ⟨.val (.bool (ddtOk xs)), [], []⟩) False
  | _, _, _ => False
def g27 : G1
  | [.rsl [.int .i64, .int .i64, .int .i64] xs, .rsl [.int .i64, .int .i64, .int .i64] ys], [], k => br (decide (xs.length ≤ 1048576)) (k ⟨.val (.bool (eqF xs ys)), [], []⟩) False
  | _, _, _ => False
theorem e23 (L : Lp) (R : Option Res → Prop) (xs : List (Elem k3)) (l : Int) : (bodyP E0 (gk []) L Try.f23 [.rsl k3 xs, .val (.int .i64 l)] [] R) = (
    br (decide (IntKind.i64.wrap (l - (↑xs.length : Int)) < 0))
      (R (some { av := AV.val (Value.int IntKind.i64 (-1)), obs := [], outs := [] }))
      (R (some { av := AV.val (Value.int IntKind.i64 (IntKind.i64.wrap (l - (↑xs.length : Int)))), obs := [], outs := [] }))) := by kernel_rfl
theorem e69 (L : Lp) (R : Option Res → Prop) (a b c : Int) : (bodyP E0 (gk []) L Try.f69 [.agg [.val (.int .i64 a), .val (.int .i64 b), .val (.int .i64 c)]] [] R) = (
    R
      (some
        {
          av :=
            AV.agg [AV.val (Value.int IntKind.i64 a), AV.val (Value.int IntKind.i64 b), AV.val (Value.int IntKind.i64 c)],
          obs := [], outs := [] })) := by kernel_rfl
theorem e70 (L : Lp) (R : Option Res → Prop) (a b c : Int) : (bodyP E0 (gk [(65, g65)]) L Try.f70 [.agg [.val (.int .i64 a), .val (.int .i64 b), .val (.int .i64 c)]] [] R) = (
    br (decide (0 ≤ a) && decide (a ≤ 65520))
      (br (decide (1 ≤ b) && decide (b ≤ 119))
        (R (some { av := AV.val (Value.bool (decide (1 ≤ c) && decide (c ≤ 1000))), obs := [], outs := [] }))
        (R (some { av := AV.val (Value.bool false), obs := [], outs := [] })))
      (R (some { av := AV.val (Value.bool false), obs := [], outs := [] }))) := by kernel_rfl
theorem e68 (L : Lp) (R : Option Res → Prop) (a b c : Int) : (bodyP E0 (gk []) L Try.f68 [.agg [.val (.int .i64 a), .val (.int .i64 b), .val (.int .i64 c)]] [] R) = (
    br (decide (a ≥ 0))
      (br (decide (a < 65521))
        (br (decide (b ≥ 1))
          (br (decide (b < 120))
            (br (decide (c ≥ 1)) (R (some { av := AV.val (Value.bool (decide (c ≤ 1000))), obs := [], outs := [] }))
              (R (some { av := AV.val (Value.bool false), obs := [], outs := [] })))
            (R (some { av := AV.val (Value.bool false), obs := [], outs := [] })))
          (R (some { av := AV.val (Value.bool false), obs := [], outs := [] })))
        (R (some { av := AV.val (Value.bool false), obs := [], outs := [] })))
      (R (some { av := AV.val (Value.bool false), obs := [], outs := [] }))) := by kernel_rfl
theorem e71 (L : Lp) (R : Option Res → Prop) (a b c a' b' c' : Int) : (bodyP E0 (gk []) L Try.f71 [.agg [.val (.int .i64 a), .val (.int .i64 b), .val (.int .i64 c)], .agg [.val (.int .i64 a'), .val (.int .i64 b'), .val (.int .i64 c')]] [] R) = (
    br (a != a') (R (some { av := AV.val (Value.bool false), obs := [], outs := [] }))
      (br (b != b') (R (some { av := AV.val (Value.bool false), obs := [], outs := [] }))
        (br (c != c') (R (some { av := AV.val (Value.bool false), obs := [], outs := [] }))
          (R (some { av := AV.val (Value.bool true), obs := [], outs := [] }))))) := by kernel_rfl
theorem h69 : G1Ok Try.prog 69 g69 := by
  intro args obs k h
  unfold g69 at h
  split at h
  · refine ⟨_, ctr_fn ok0 hg_nil Try.func69 (by kernel_rfl) (by kernel_rfl) (by kernel_rfl) fun C => ?_, h⟩
    rw [e69]
  · exact h.elim
theorem h70 : G1Ok Try.prog 70 g70 := by
  intro args obs k h
  unfold g70 at h
  split at h
  · refine ⟨_, ctr_fn ok0 (hg_cons h65 hg_nil) Try.func70 (by kernel_rfl) (by kernel_rfl) (by kernel_rfl) fun C => ?_, h⟩
    rw [e70]
    repeat' (first | refine br_intro (fun h => ?_) (fun h => ?_))
    all_goals simp [entryOk, within] at *
    all_goals grind
  · exact h.elim
theorem h68 : G1Ok Try.prog 68 g70 := by
  intro args obs k h
  unfold g70 at h
  split at h
  · refine ⟨_, ctr_fn ok0 hg_nil Try.func68 (by kernel_rfl) (by kernel_rfl) (by kernel_rfl) fun C => ?_, h⟩
    rw [e68]
    repeat' (first | refine br_intro (fun h => ?_) (fun h => ?_))
    all_goals simp [entryOk, within] at *
    all_goals grind
  · exact h.elim
theorem h71 : G1Ok Try.prog 71 g71 := by
  intro args obs k h
  unfold g71 at h
  split at h
  · refine ⟨_, ctr_fn ok0 hg_nil Try.func71 (by kernel_rfl) (by kernel_rfl) (by kernel_rfl) fun C => ?_, h⟩
    rw [e71]
    repeat' (first | refine br_intro (fun h => ?_) (fun h => ?_))
    all_goals simp at *
    all_goals grind
  · exact h.elim
theorem h23 : G1Ok Try.prog 23 g23 := by
  intro args obs k h
  unfold g23 at h
  split at h
  · rename_i k xs l
    have key : ∀ C, ∀ R, (decide (IntKind.i64.wrap (l - xs.length) < 0) = true → R (some ⟨.val (.int .i64 (-1)), [], []⟩)) → (decide (IntKind.i64.wrap (l - xs.length) < 0) = false → R (some ⟨.val (.int .i64 (IntKind.i64.wrap (l - xs.length))), [], []⟩)) → bodyP E0 (gk []) (LoopOk Try.prog C) Try.f23 [.rsl k3 xs, .val (.int .i64 l)] [] R := by
      intro C R h1 h2
      rw [e23]
      exact br_intro h1 h2
    cases hc : decide (IntKind.i64.wrap (l - xs.length) < 0) with
    | true =>
      rw [hc] at h
      exact ⟨_, ctr_fn ok0 hg_nil Try.func23 (by kernel_rfl) (by kernel_rfl) (by kernel_rfl) fun C => key C _ (fun _ => rfl) (fun h => by rw [hc] at h; cases h), h⟩
    | false =>
      rw [hc] at h
      exact ⟨_, ctr_fn ok0 hg_nil Try.func23 (by kernel_rfl) (by kernel_rfl) (by kernel_rfl) fun C => key C _ (fun h => by rw [hc] at h; cases h) (fun _ => rfl), h⟩
  · exact h.elim
noncomputable def E25 : Env := E0.of Try.f25
noncomputable def G25 : Gk := gk [(69, g69)]
noncomputable def lp25 (n : Nat) : Code := (loopOf n (codeOf Try.f25)).getD .skip
noncomputable def ct25 (L : Lp) (R : Option Res → Prop) (n : Nat) : Kt := contOf E25 G25 L n (codeOf Try.f25) (endK E25 Try.f25.results.toList R)
noncomputable def rk25 (L : Lp) (R : Option Res → Prop) (n : Nat) (N : St → Prop) : Kt := rk (jof E25 (lp25 n)) N (ct25 L R n)
noncomputable def LOOP25 (L : Lp) (R : Option Res → Prop) (n : Nat) (st : St) : Prop := L (lp25 n) st (ct25 L R n)
theorem hg25 : HG Try.prog G25 := (hg_cons h69 hg_nil)
theorem okf25 : Ok Try.prog E25 := ok0.of Try.f25
theorem e25 (L : Lp) (R : Option Res → Prop) (xs : List (Elem k3)) : (bodyP E0 G25 L Try.f25 [.rsl k3 xs] [] R) = (
    br
      (decide
        (0 ≤ (↑xs.length : Int) ∧ (↑xs.length : Int) ≤ (↑xs.length : Int) ∧ 24 * (↑xs.length : Int) ≤ 281474976710656))
      (LOOP25 L R 3
        {
          tm :=
            [AV.rsl [CK.int IntKind.i64, CK.int IntKind.i64, CK.int IntKind.i64] xs, AV.val (Value.tuple #[]), AV.ows 0,
              AV.ows 1, AV.val (Value.int IntKind.i64 0),
              AV.rsl [CK.int IntKind.i64, CK.int IntKind.i64, CK.int IntKind.i64] xs,
              AV.val (Value.int IntKind.i64 (↑xs.length : Int)), AV.ows 1, AV.junk, AV.junk, AV.junk, AV.junk, AV.junk,
              AV.junk, AV.junk, AV.junk, AV.junk, AV.junk, AV.junk, AV.junk, AV.junk, AV.junk, AV.val (Value.tuple #[])],
          ob :=
            [(0, AO.row [CK.int IntKind.i64, CK.int IntKind.i64, CK.int IntKind.i64] []),
              (1,
                AO.row [CK.int IntKind.i64, CK.int IntKind.i64, CK.int IntKind.i64]
                  (List.replicate (↑xs.length : Int).toNat
                    (edflt [CK.int IntKind.i64, CK.int IntKind.i64, CK.int IntKind.i64])))],
          nx := 1000000, ps := [] })
      False) := by kernel_rfl
def st25 (xs : List (Elem k3)) (i : Int) (ys : List (Elem k3)) : St :=
  ⟨[AV.rsl [CK.int IntKind.i64, CK.int IntKind.i64, CK.int IntKind.i64] xs, AV.val (Value.tuple #[]), AV.ows 0, AV.ows 1, .val (.int .i64 i), AV.rsl [CK.int IntKind.i64, CK.int IntKind.i64, CK.int IntKind.i64] xs, AV.val (Value.int IntKind.i64 (↑xs.length : Int)), AV.ows 1, AV.junk, AV.junk, AV.junk, AV.junk, AV.junk, AV.junk, AV.junk, AV.junk, AV.junk, AV.junk, AV.junk, AV.junk, AV.junk, AV.junk, AV.val (Value.tuple #[])],
    [(0, AO.row [CK.int IntKind.i64, CK.int IntKind.i64, CK.int IntKind.i64] []), (1, .row k3 ys)], 1000000, []⟩
theorem b25 (L : Lp) (R : Option Res → Prop) (N : St → Prop) (xs : List (Elem k3)) (i : Int) (ys : List (Elem k3)) : (evP E25 G25 L (lp25 3) (st25 xs i ys) (rk25 L R 3 N)) = (
    br (decide (i < (↑xs.length : Int)))
      (br (decide (0 ≤ i ∧ i < (↑xs.length : Int)))
        (br (decide (0 ≤ i ∧ i < (↑ys.length : Int)))
          (N
            {
              tm :=
                [AV.rsl [CK.int IntKind.i64, CK.int IntKind.i64, CK.int IntKind.i64] xs, AV.val (Value.tuple #[]), AV.ows 0,
                  AV.ows 1, AV.val (Value.int IntKind.i64 (IntKind.i64.wrap (i + 1))),
                  AV.rsl [CK.int IntKind.i64, CK.int IntKind.i64, CK.int IntKind.i64] xs,
                  AV.val (Value.int IntKind.i64 (↑xs.length : Int)), AV.ows 1, AV.junk, AV.junk, AV.junk, AV.junk, AV.junk,
                  AV.junk, AV.junk, AV.junk, AV.junk, AV.junk, AV.junk, AV.junk, AV.junk, AV.junk,
                  AV.val (Value.tuple #[])],
              ob :=
                [(0, AO.row [CK.int IntKind.i64, CK.int IntKind.i64, CK.int IntKind.i64] []),
                  (1,
                    AO.row [CK.int IntKind.i64, CK.int IntKind.i64, CK.int IntKind.i64]
                      (ys.set i.toNat
                        (xs.getD i.toNat (edflt [CK.int IntKind.i64, CK.int IntKind.i64, CK.int IntKind.i64]))))],
              nx := 1000000, ps := [] })
          False)
        False)
      (R
        (some
          { av := AV.ows 0, obs := [AO.row [CK.int IntKind.i64, CK.int IntKind.i64, CK.int IntKind.i64] ys], outs := [] }))) := by kernel_rfl
noncomputable def E24 : Env := E0.of Try.f24
noncomputable def G24 : Gk := gk [(68, g70)]
noncomputable def lp24 (n : Nat) : Code := (loopOf n (codeOf Try.f24)).getD .skip
noncomputable def ct24 (L : Lp) (R : Option Res → Prop) (n : Nat) : Kt := contOf E24 G24 L n (codeOf Try.f24) (endK E24 Try.f24.results.toList R)
noncomputable def rk24 (L : Lp) (R : Option Res → Prop) (n : Nat) (N : St → Prop) : Kt := rk (jof E24 (lp24 n)) N (ct24 L R n)
noncomputable def LOOP24 (L : Lp) (R : Option Res → Prop) (n : Nat) (st : St) : Prop := L (lp24 n) st (ct24 L R n)
theorem hg24 : HG Try.prog G24 := (hg_cons h68 hg_nil)
theorem okf24 : Ok Try.prog E24 := ok0.of Try.f24
theorem e24 (L : Lp) (R : Option Res → Prop) (xs : List (Elem k3)) : (bodyP E0 G24 L Try.f24 [.rsl k3 xs] [] R) = (
    br (decide ((↑xs.length : Int) > 48)) (R (some { av := AV.val (Value.bool false), obs := [], outs := [] }))
      (LOOP24 L R 4
        {
          tm :=
            [AV.rsl [CK.int IntKind.i64, CK.int IntKind.i64, CK.int IntKind.i64] xs, AV.val (Value.tuple #[]),
              AV.val (Value.bool false), AV.val (Value.int IntKind.i64 0),
              AV.rsl [CK.int IntKind.i64, CK.int IntKind.i64, CK.int IntKind.i64] xs,
              AV.val (Value.int IntKind.i64 (↑xs.length : Int)), AV.val (Value.bool (decide ((↑xs.length : Int) > 48))),
              AV.junk, AV.junk, AV.junk, AV.junk, AV.junk, AV.junk, AV.junk, AV.junk, AV.junk, AV.junk, AV.junk, AV.junk,
              AV.junk, AV.junk, AV.junk, AV.junk, AV.junk, AV.junk, AV.junk, AV.junk, AV.junk, AV.junk, AV.junk, AV.junk,
              AV.junk, AV.junk, AV.junk, AV.junk, AV.junk, AV.junk],
          ob := [], nx := 1000000, ps := [] })) := by kernel_rfl
def st24 (xs : List (Elem k3)) (i : Int) : St :=
  ⟨[AV.rsl [CK.int IntKind.i64, CK.int IntKind.i64, CK.int IntKind.i64] xs, AV.val (Value.tuple #[]), AV.val (Value.bool false), .val (.int .i64 i), AV.rsl [CK.int IntKind.i64, CK.int IntKind.i64, CK.int IntKind.i64] xs, AV.val (Value.int IntKind.i64 (↑xs.length : Int)), AV.val (Value.bool (decide ((↑xs.length : Int) > 48))), AV.junk, AV.junk, AV.junk, AV.junk, AV.junk, AV.junk, AV.junk, AV.junk, AV.junk, AV.junk, AV.junk, AV.junk, AV.junk, AV.junk, AV.junk, AV.junk, AV.junk, AV.junk, AV.junk, AV.junk, AV.junk, AV.junk, AV.junk, AV.junk, AV.junk, AV.junk, AV.junk, AV.junk, AV.junk, AV.junk],
    [], 1000000, []⟩
theorem b24 (L : Lp) (R : Option Res → Prop) (N : St → Prop) (xs : List (Elem k3)) (i : Int) : (evP E24 G24 L (lp24 4) (st24 xs i) (rk24 L R 4 N)) = (
    br (decide (i < (↑xs.length : Int)))
      (br (decide (0 ≤ i ∧ i < (↑xs.length : Int)))
        (br (!entryOk (xs.getD i.toNat (edflt [CK.int IntKind.i64, CK.int IntKind.i64, CK.int IntKind.i64])))
          (R (some { av := AV.val (Value.bool false), obs := [], outs := [] }))
          (br (decide (i > 0))
            (br (decide (0 ≤ i ∧ i < (↑xs.length : Int)))
              (br (decide (0 ≤ IntKind.i64.wrap (i - 1) ∧ IntKind.i64.wrap (i - 1) < (↑xs.length : Int)))
                (br
                  (decide
                    ((xs.getD i.toNat (edflt [CK.int IntKind.i64, CK.int IntKind.i64, CK.int IntKind.i64])).snd.fst ≤
                      (xs.getD (IntKind.i64.wrap (i - 1)).toNat
                            (edflt [CK.int IntKind.i64, CK.int IntKind.i64, CK.int IntKind.i64])).snd.fst))
                  (R (some { av := AV.val (Value.bool false), obs := [], outs := [] }))
                  (N
                    {
                      tm :=
                        [AV.rsl [CK.int IntKind.i64, CK.int IntKind.i64, CK.int IntKind.i64] xs, AV.val (Value.tuple #[]),
                          AV.val (Value.bool false), AV.val (Value.int IntKind.i64 (IntKind.i64.wrap (i + 1))),
                          AV.rsl [CK.int IntKind.i64, CK.int IntKind.i64, CK.int IntKind.i64] xs,
                          AV.val (Value.int IntKind.i64 (↑xs.length : Int)),
                          AV.val (Value.bool (decide ((↑xs.length : Int) > 48))), AV.junk, AV.junk, AV.junk, AV.junk,
                          AV.junk, AV.junk, AV.junk, AV.junk, AV.junk, AV.junk, AV.junk, AV.junk, AV.junk, AV.junk, AV.junk,
                          AV.junk, AV.junk, AV.junk, AV.junk, AV.junk, AV.junk, AV.junk, AV.junk, AV.junk, AV.junk, AV.junk,
                          AV.junk, AV.junk, AV.junk, AV.junk],
                      ob := [], nx := 1000000, ps := [] }))
                False)
              False)
            (N
              {
                tm :=
                  [AV.rsl [CK.int IntKind.i64, CK.int IntKind.i64, CK.int IntKind.i64] xs, AV.val (Value.tuple #[]),
                    AV.val (Value.bool false), AV.val (Value.int IntKind.i64 (IntKind.i64.wrap (i + 1))),
                    AV.rsl [CK.int IntKind.i64, CK.int IntKind.i64, CK.int IntKind.i64] xs,
                    AV.val (Value.int IntKind.i64 (↑xs.length : Int)),
                    AV.val (Value.bool (decide ((↑xs.length : Int) > 48))), AV.junk, AV.junk, AV.junk, AV.junk, AV.junk,
                    AV.junk, AV.junk, AV.junk, AV.junk, AV.junk, AV.junk, AV.junk, AV.junk, AV.junk, AV.junk, AV.junk,
                    AV.junk, AV.junk, AV.junk, AV.junk, AV.junk, AV.junk, AV.junk, AV.junk, AV.junk, AV.junk, AV.junk,
                    AV.junk, AV.junk, AV.junk],
                ob := [], nx := 1000000, ps := [] })))
        False)
      (R (some { av := AV.val (Value.bool true), obs := [], outs := [] }))) := by kernel_rfl
noncomputable def E26 : Env := E0.of Try.f26
noncomputable def G26 : Gk := gk [(70, g70)]
noncomputable def lp26 (n : Nat) : Code := (loopOf n (codeOf Try.f26)).getD .skip
noncomputable def ct26 (L : Lp) (R : Option Res → Prop) (n : Nat) : Kt := contOf E26 G26 L n (codeOf Try.f26) (endK E26 Try.f26.results.toList R)
noncomputable def rk26 (L : Lp) (R : Option Res → Prop) (n : Nat) (N : St → Prop) : Kt := rk (jof E26 (lp26 n)) N (ct26 L R n)
noncomputable def LOOP26 (L : Lp) (R : Option Res → Prop) (n : Nat) (st : St) : Prop := L (lp26 n) st (ct26 L R n)
theorem hg26 : HG Try.prog G26 := (hg_cons h70 hg_nil)
theorem okf26 : Ok Try.prog E26 := ok0.of Try.f26
theorem e26 (L : Lp) (R : Option Res → Prop) (xs : List (Elem k3)) : (bodyP E0 G26 L Try.f26 [.rsl k3 xs] [] R) = (
    LOOP26 L R 2
      {
        tm :=
          [AV.rsl [CK.int IntKind.i64, CK.int IntKind.i64, CK.int IntKind.i64] xs, AV.val (Value.tuple #[]),
            AV.val (Value.bool false), AV.junk, AV.junk,
            AV.rsl [CK.int IntKind.i64, CK.int IntKind.i64, CK.int IntKind.i64] xs,
            AV.val (Value.int IntKind.i64 (↑xs.length : Int)), AV.val (Value.int IntKind.i64 0), AV.junk, AV.junk, AV.junk,
            AV.junk, AV.junk, AV.junk, AV.junk, AV.junk, AV.junk, AV.junk, AV.junk, AV.junk, AV.junk, AV.junk, AV.junk,
            AV.junk, AV.junk, AV.junk, AV.junk, AV.junk, AV.junk, AV.junk, AV.junk, AV.val (Value.tuple #[]),
            AV.val (Value.tuple #[]), AV.val (Value.tuple #[])],
        ob := [], nx := 1000000, ps := [] }) := by kernel_rfl
def st26 (xs : List (Elem k3)) (i : Int) : St :=
  ⟨[AV.rsl [CK.int IntKind.i64, CK.int IntKind.i64, CK.int IntKind.i64] xs, AV.val (Value.tuple #[]), AV.val (Value.bool false), AV.junk, AV.junk, AV.rsl [CK.int IntKind.i64, CK.int IntKind.i64, CK.int IntKind.i64] xs, AV.val (Value.int IntKind.i64 (↑xs.length : Int)), .val (.int .i64 i), AV.junk, AV.junk, AV.junk, AV.junk, AV.junk, AV.junk, AV.junk, AV.junk, AV.junk, AV.junk, AV.junk, AV.junk, AV.junk, AV.junk, AV.junk, AV.junk, AV.junk, AV.junk, AV.junk, AV.junk, AV.junk, AV.junk, AV.junk, AV.val (Value.tuple #[]), AV.val (Value.tuple #[]), AV.val (Value.tuple #[])],
    [], 1000000, []⟩
theorem b26 (L : Lp) (R : Option Res → Prop) (N : St → Prop) (xs : List (Elem k3)) (i : Int) : (evP E26 G26 L (lp26 2) (st26 xs i) (rk26 L R 2 N)) = (
    br (decide (i < (↑xs.length : Int)))
      (br (decide (0 ≤ i ∧ i < (↑xs.length : Int)))
        (br (!entryOk (xs.getD i.toNat (edflt [CK.int IntKind.i64, CK.int IntKind.i64, CK.int IntKind.i64])))
          (R (some { av := AV.val (Value.bool false), obs := [], outs := [] }))
          (br (decide (i > 0))
            (br (decide (0 ≤ IntKind.i64.wrap (i - 1) ∧ IntKind.i64.wrap (i - 1) < (↑xs.length : Int)))
              (br
                (decide
                  ((xs.getD (IntKind.i64.wrap (i - 1)).toNat
                          (edflt [CK.int IntKind.i64, CK.int IntKind.i64, CK.int IntKind.i64])).snd.fst ≥
                    (xs.getD i.toNat (edflt [CK.int IntKind.i64, CK.int IntKind.i64, CK.int IntKind.i64])).snd.fst))
                (R (some { av := AV.val (Value.bool false), obs := [], outs := [] }))
                (N
                  {
                    tm :=
                      [AV.rsl [CK.int IntKind.i64, CK.int IntKind.i64, CK.int IntKind.i64] xs, AV.val (Value.tuple #[]),
                        AV.val (Value.bool false), AV.junk, AV.junk,
                        AV.rsl [CK.int IntKind.i64, CK.int IntKind.i64, CK.int IntKind.i64] xs,
                        AV.val (Value.int IntKind.i64 (↑xs.length : Int)),
                        AV.val (Value.int IntKind.i64 (IntKind.i64.wrap (i + 1))), AV.junk, AV.junk, AV.junk, AV.junk,
                        AV.junk, AV.junk, AV.junk, AV.junk, AV.junk, AV.junk, AV.junk, AV.junk, AV.junk, AV.junk, AV.junk,
                        AV.junk, AV.junk, AV.junk, AV.junk, AV.junk, AV.junk, AV.junk, AV.junk, AV.val (Value.tuple #[]),
                        AV.val (Value.tuple #[]), AV.val (Value.tuple #[])],
                    ob := [], nx := 1000000, ps := [] }))
              False)
            (N
              {
                tm :=
                  [AV.rsl [CK.int IntKind.i64, CK.int IntKind.i64, CK.int IntKind.i64] xs, AV.val (Value.tuple #[]),
                    AV.val (Value.bool false), AV.junk, AV.junk,
                    AV.rsl [CK.int IntKind.i64, CK.int IntKind.i64, CK.int IntKind.i64] xs,
                    AV.val (Value.int IntKind.i64 (↑xs.length : Int)),
                    AV.val (Value.int IntKind.i64 (IntKind.i64.wrap (i + 1))), AV.junk, AV.junk, AV.junk, AV.junk, AV.junk,
                    AV.junk, AV.junk, AV.junk, AV.junk, AV.junk, AV.junk, AV.junk, AV.junk, AV.junk, AV.junk, AV.junk,
                    AV.junk, AV.junk, AV.junk, AV.junk, AV.junk, AV.junk, AV.junk, AV.val (Value.tuple #[]),
                    AV.val (Value.tuple #[]), AV.val (Value.tuple #[])],
                ob := [], nx := 1000000, ps := [] })))
        False)
      (R (some { av := AV.val (Value.bool (decide ((↑xs.length : Int) ≤ 48))), obs := [], outs := [] }))) := by kernel_rfl
noncomputable def E27 : Env := E0.of Try.f27
noncomputable def G27 : Gk := gk [(71, g71)]
noncomputable def lp27 (n : Nat) : Code := (loopOf n (codeOf Try.f27)).getD .skip
noncomputable def ct27 (L : Lp) (R : Option Res → Prop) (n : Nat) : Kt := contOf E27 G27 L n (codeOf Try.f27) (endK E27 Try.f27.results.toList R)
noncomputable def rk27 (L : Lp) (R : Option Res → Prop) (n : Nat) (N : St → Prop) : Kt := rk (jof E27 (lp27 n)) N (ct27 L R n)
noncomputable def LOOP27 (L : Lp) (R : Option Res → Prop) (n : Nat) (st : St) : Prop := L (lp27 n) st (ct27 L R n)
theorem hg27 : HG Try.prog G27 := (hg_cons h71 hg_nil)
theorem okf27 : Ok Try.prog E27 := ok0.of Try.f27
theorem e27 (L : Lp) (R : Option Res → Prop) (xs ys : List (Elem k3)) : (bodyP E0 G27 L Try.f27 [.rsl k3 xs, .rsl k3 ys] [] R) = (
    br ((↑xs.length : Int) != (↑ys.length : Int)) (R (some { av := AV.val (Value.bool false), obs := [], outs := [] }))
      (LOOP27 L R 4
        {
          tm :=
            [AV.rsl [CK.int IntKind.i64, CK.int IntKind.i64, CK.int IntKind.i64] xs,
              AV.rsl [CK.int IntKind.i64, CK.int IntKind.i64, CK.int IntKind.i64] ys, AV.val (Value.tuple #[]),
              AV.val (Value.tuple #[]), AV.val (Value.bool false), AV.val (Value.int IntKind.i64 0),
              AV.rsl [CK.int IntKind.i64, CK.int IntKind.i64, CK.int IntKind.i64] xs,
              AV.val (Value.int IntKind.i64 (↑xs.length : Int)),
              AV.rsl [CK.int IntKind.i64, CK.int IntKind.i64, CK.int IntKind.i64] ys,
              AV.val (Value.int IntKind.i64 (↑ys.length : Int)),
              AV.val (Value.bool ((↑xs.length : Int) != (↑ys.length : Int))), AV.junk, AV.junk, AV.junk, AV.junk, AV.junk,
              AV.junk, AV.junk, AV.junk, AV.junk, AV.junk, AV.junk, AV.junk, AV.junk, AV.junk, AV.junk, AV.junk],
          ob := [], nx := 1000000, ps := [] })) := by kernel_rfl
def st27 (xs ys : List (Elem k3)) (i : Int) : St :=
  ⟨[AV.rsl [CK.int IntKind.i64, CK.int IntKind.i64, CK.int IntKind.i64] xs, AV.rsl [CK.int IntKind.i64, CK.int IntKind.i64, CK.int IntKind.i64] ys, AV.val (Value.tuple #[]), AV.val (Value.tuple #[]), AV.val (Value.bool false), .val (.int .i64 i), AV.rsl [CK.int IntKind.i64, CK.int IntKind.i64, CK.int IntKind.i64] xs, AV.val (Value.int IntKind.i64 (↑xs.length : Int)), AV.rsl [CK.int IntKind.i64, CK.int IntKind.i64, CK.int IntKind.i64] ys, AV.val (Value.int IntKind.i64 (↑ys.length : Int)), AV.val (Value.bool ((↑xs.length : Int) != (↑ys.length : Int))), AV.junk, AV.junk, AV.junk, AV.junk, AV.junk, AV.junk, AV.junk, AV.junk, AV.junk, AV.junk, AV.junk, AV.junk, AV.junk, AV.junk, AV.junk, AV.junk],
    [], 1000000, []⟩
theorem b27 (L : Lp) (R : Option Res → Prop) (N : St → Prop) (xs ys : List (Elem k3)) (i : Int) : (evP E27 G27 L (lp27 4) (st27 xs ys i) (rk27 L R 4 N)) = (
    br (decide (i < (↑xs.length : Int)))
      (br (decide (0 ≤ i ∧ i < (↑xs.length : Int)))
        (br (decide (0 ≤ i ∧ i < (↑ys.length : Int)))
          (br
            (!((xs.getD i.toNat (edflt [CK.int IntKind.i64, CK.int IntKind.i64, CK.int IntKind.i64])).fst ==
                    (ys.getD i.toNat (edflt [CK.int IntKind.i64, CK.int IntKind.i64, CK.int IntKind.i64])).fst &&
                  (xs.getD i.toNat (edflt [CK.int IntKind.i64, CK.int IntKind.i64, CK.int IntKind.i64])).snd.fst ==
                    (ys.getD i.toNat (edflt [CK.int IntKind.i64, CK.int IntKind.i64, CK.int IntKind.i64])).snd.fst &&
                (xs.getD i.toNat (edflt [CK.int IntKind.i64, CK.int IntKind.i64, CK.int IntKind.i64])).snd.snd.fst ==
                  (ys.getD i.toNat (edflt [CK.int IntKind.i64, CK.int IntKind.i64, CK.int IntKind.i64])).snd.snd.fst))
            (R (some { av := AV.val (Value.bool false), obs := [], outs := [] }))
            (N
              {
                tm :=
                  [AV.rsl [CK.int IntKind.i64, CK.int IntKind.i64, CK.int IntKind.i64] xs,
                    AV.rsl [CK.int IntKind.i64, CK.int IntKind.i64, CK.int IntKind.i64] ys, AV.val (Value.tuple #[]),
                    AV.val (Value.tuple #[]), AV.val (Value.bool false),
                    AV.val (Value.int IntKind.i64 (IntKind.i64.wrap (i + 1))),
                    AV.rsl [CK.int IntKind.i64, CK.int IntKind.i64, CK.int IntKind.i64] xs,
                    AV.val (Value.int IntKind.i64 (↑xs.length : Int)),
                    AV.rsl [CK.int IntKind.i64, CK.int IntKind.i64, CK.int IntKind.i64] ys,
                    AV.val (Value.int IntKind.i64 (↑ys.length : Int)),
                    AV.val (Value.bool ((↑xs.length : Int) != (↑ys.length : Int))), AV.junk, AV.junk, AV.junk, AV.junk,
                    AV.junk, AV.junk, AV.junk, AV.junk, AV.junk, AV.junk, AV.junk, AV.junk, AV.junk, AV.junk, AV.junk,
                    AV.junk],
                ob := [], nx := 1000000, ps := [] }))
          False)
        False)
      (R (some { av := AV.val (Value.bool true), obs := [], outs := [] }))) := by kernel_rfl
theorem h26 : G1Ok Try.prog 26 g26 := by
  intro args obs k h
  unfold g26 at h
  split at h
  · rename_i k xs
    obtain ⟨hlen, h⟩ := br_and h
    simp at hlen
    refine ⟨_, ctr_fn ok0 hg26 Try.func26 (by kernel_rfl) (by kernel_rfl) (by kernel_rfl) fun C => ?_, h⟩
    rw [e26]
    exact loopR okf26 hg26 (ι := {i : Int // 0 ≤ i ∧ i ≤ xs.length ∧ ∀ j : Nat, (j : Int) < i → okAt xs j = true}) (fun i => st26 xs i.1) (fun i => (xs.length - i.1).toNat) (fun ⟨i, h0, h1, hall⟩ => by
      show evP E26 G26 _ (lp26 2) (st26 xs i) (rk26 _ _ 2 _)
      rw [b26]
      have hw1 : IntKind.i64.wrap (i + 1) = i + 1 := wrap_id (by omega) (by omega)
      have hw2 : IntKind.i64.wrap (i - 1) = i - 1 := wrap_id (by omega) (by omega)
      rw [hw1, hw2]
      refine br_intro (fun h2 => ?_) (fun h2 => ?_)
      · simp at h2
        have hi : ((i.toNat : Nat) : Int) = i := by omega
        have bad : okAt xs i.toNat = false → ddtOk xs = false := by
          intro hb
          have : (List.range xs.length).all (okAt xs) = false := by
            rw [List.all_eq_false]
            exact ⟨i.toNat, by simp; omega, by simp [hb]⟩
          simp [ddtOk, this]
        have next : okAt xs i.toNat = true → ∃ j : {i : Int // 0 ≤ i ∧ i ≤ xs.length ∧ ∀ j : Nat, (j : Int) < i → okAt xs j = true}, st26 xs (i + 1) = st26 xs j.1 ∧ (xs.length - j.1).toNat < (xs.length - i).toNat := by
          intro hok
          refine ⟨⟨i + 1, by omega, by omega, fun j hj => ?_⟩, rfl, by show (xs.length - (i + 1)).toNat < _; omega⟩
          by_cases e : (j : Int) < i
          · exact hall j e
          · have : j = i.toNat := by omega
            rw [this]; exact hok
        refine br_intro (fun _ => ?_) (fun h3 => by simp at h3; omega)
        refine br_intro (fun h3 => ?_) (fun h3 => ?_)
        · show _ = _
          rw [bad (by unfold okAt at3; simp at h3; simp [h3])]
        · simp at h3
          refine br_intro (fun h4 => ?_) (fun h4 => ?_)
          · simp at h4
            have hj : (i - 1).toNat = i.toNat - 1 := by omega
            have hne : ¬ i.toNat = 0 := by omega
            refine br_intro (fun _ => ?_) (fun h5 => by simp at h5; omega)
            refine br_intro (fun h5 => ?_) (fun h5 => ?_)
            · show _ = _
              rw [bad (by unfold okAt at3; rw [hj] at h5; simp at h5; simp [hne]; intro _; omega)]
            · exact next (by unfold okAt at3; rw [hj] at h5; simp at h5; simp [hne, h3]; omega)
          · simp at h4
            have h0' : i.toNat = 0 := by omega
            exact next (by unfold okAt at3; simp [h0'] at h3 ⊢; simp [h3])
      · simp at h2
        show _ = _
        have : (List.range xs.length).all (okAt xs) = true := by
          rw [List.all_eq_true]
          intro j hj
          exact hall j (by simp at hj; omega)
        have e : decide ((xs.length : Int) ≤ 48) = decide (xs.length ≤ 48) := by
          apply decide_eq_decide.2; omega
        rw [e]
        simp [ddtOk, this]) ⟨0, by omega, by omega, fun j hj => by omega⟩
  · exact h.elim
theorem h24 : G1Ok Try.prog 24 g26 := by
  intro args obs k h
  unfold g26 at h
  split at h
  · rename_i k xs
    obtain ⟨hlen, h⟩ := br_and h
    simp at hlen
    refine ⟨_, ctr_fn ok0 hg24 Try.func24 (by kernel_rfl) (by kernel_rfl) (by kernel_rfl) fun C => ?_, h⟩
    rw [e24]
    refine br_intro (fun hb => ?_) (fun hb => ?_)
    · simp at hb
      have : ddtOk xs = false := by simp [ddtOk]; omega
      rw [this]
    have h48 : xs.length ≤ 48 := by simp at hb; omega
    have hb' : decide ((xs.length : Int) > 48) = false := hb
    exact loopR okf24 hg24 (ι := {i : Int // 0 ≤ i ∧ i ≤ xs.length ∧ ∀ j : Nat, (j : Int) < i → okAt xs j = true}) (fun i => st24 xs i.1) (fun i => (xs.length - i.1).toNat) (fun ⟨i, h0, h1, hall⟩ => by
      show evP E24 G24 _ (lp24 4) (st24 xs i) (rk24 _ _ 4 _)
      rw [b24]
      have hw1 : IntKind.i64.wrap (i + 1) = i + 1 := wrap_id (by omega) (by omega)
      have hw2 : IntKind.i64.wrap (i - 1) = i - 1 := wrap_id (by omega) (by omega)
      rw [hw1, hw2]
      refine br_intro (fun h2 => ?_) (fun h2 => ?_)
      · simp at h2
        have hi : ((i.toNat : Nat) : Int) = i := by omega
        have bad : okAt xs i.toNat = false → ddtOk xs = false := by
          intro hb
          have : (List.range xs.length).all (okAt xs) = false := by
            rw [List.all_eq_false]
            exact ⟨i.toNat, by simp; omega, by simp [hb]⟩
          simp [ddtOk, this]
        have next : okAt xs i.toNat = true → ∃ j : {i : Int // 0 ≤ i ∧ i ≤ xs.length ∧ ∀ j : Nat, (j : Int) < i → okAt xs j = true}, st24 xs (i + 1) = st24 xs j.1 ∧ (xs.length - j.1).toNat < (xs.length - i).toNat := by
          intro hok
          refine ⟨⟨i + 1, by omega, by omega, fun j hj => ?_⟩, rfl, by show (xs.length - (i + 1)).toNat < _; omega⟩
          by_cases e : (j : Int) < i
          · exact hall j e
          · have : j = i.toNat := by omega
            rw [this]; exact hok
        refine br_intro (fun _ => ?_) (fun h3 => by simp at h3; omega)
        refine br_intro (fun h3 => ?_) (fun h3 => ?_)
        · show _ = _
          rw [bad (by unfold okAt at3; simp at h3; simp [h3])]
        · simp at h3
          refine br_intro (fun h4 => ?_) (fun h4 => ?_)
          · simp at h4
            have hj : (i - 1).toNat = i.toNat - 1 := by omega
            have hne : ¬ i.toNat = 0 := by omega
            refine br_intro (fun _ => ?_) (fun h5 => by simp at h5; omega)
            refine br_intro (fun _ => ?_) (fun h5 => by simp at h5; omega)
            refine br_intro (fun h5 => ?_) (fun h5 => ?_)
            · show _ = _
              rw [bad (by unfold okAt at3; rw [hj] at h5; simp at h5; simp [hne]; intro _; omega)]
            · exact next (by unfold okAt at3; rw [hj] at h5; simp at h5; simp [hne, h3]; omega)
          · simp at h4
            have h0' : i.toNat = 0 := by omega
            exact next (by unfold okAt at3; simp [h0'] at h3 ⊢; simp [h3])
      · simp at h2
        show _ = _
        have : (List.range xs.length).all (okAt xs) = true := by
          rw [List.all_eq_true]
          intro j hj
          exact hall j (by simp at hj; omega)
        simp [ddtOk, this, h48]) ⟨0, by omega, by omega, fun j hj => by omega⟩
  · exact h.elim
theorem h27 : G1Ok Try.prog 27 g27 := by
  intro args obs k h
  unfold g27 at h
  split at h
  · rename_i k xs ys
    obtain ⟨hlen, h⟩ := br_and h
    simp at hlen
    refine ⟨_, ctr_fn ok0 hg27 Try.func27 (by kernel_rfl) (by kernel_rfl) (by kernel_rfl) fun C => ?_, h⟩
    rw [e27]
    refine br_intro (fun hb => ?_) (fun hb => ?_)
    · simp at hb
      have : eqF xs ys = false := by simp [eqF]; omega
      rw [this]
    have hl : xs.length = ys.length := by simp at hb; omega
    exact loopR okf27 hg27 (ι := {i : Int // 0 ≤ i ∧ i ≤ xs.length ∧ ∀ j : Nat, (j : Int) < i → eq3 (at3 xs j) (at3 ys j) = true}) (fun i => st27 xs ys i.1) (fun i => (xs.length - i.1).toNat) (fun ⟨i, h0, h1, hall⟩ => by
      show evP E27 G27 _ (lp27 4) (st27 xs ys i) (rk27 _ _ 4 _)
      rw [b27]
      have hw1 : IntKind.i64.wrap (i + 1) = i + 1 := wrap_id (by omega) (by omega)
      rw [hw1]
      refine br_intro (fun h2 => ?_) (fun h2 => ?_)
      · simp at h2
        refine br_intro (fun _ => ?_) (fun h3 => by simp at h3; omega)
        refine br_intro (fun _ => ?_) (fun h3 => by simp at h3; omega)
        refine br_intro (fun h3 => ?_) (fun h3 => ?_)
        · show _ = _
          have hb : eq3 (at3 xs i.toNat) (at3 ys i.toNat) = false := by
            rw [Bool.not_eq_true'] at h3
            exact h3
          have : eqF xs ys = false := by
            have : ((List.range xs.length).all fun i => eq3 (at3 xs i) (at3 ys i)) = false := by
              rw [List.all_eq_false]
              exact ⟨i.toNat, by simp; omega, by simp [hb]⟩
            simp [eqF, this]
          rw [this]
        · have hok : eq3 (at3 xs i.toNat) (at3 ys i.toNat) = true := by
            rw [Bool.not_eq_false'] at h3
            exact h3
          refine ⟨⟨i + 1, by omega, by omega, fun j hj => ?_⟩, rfl, by show (xs.length - (i + 1)).toNat < (xs.length - i).toNat; omega⟩
          by_cases e : (j : Int) < i
          · exact hall j e
          · have : j = i.toNat := by omega
            rw [this]; exact hok
      · simp at h2
        show _ = _
        have : ((List.range xs.length).all fun i => eq3 (at3 xs i) (at3 ys i)) = true := by
          rw [List.all_eq_true]
          intro j hj
          exact hall j (by simp at hj; omega)
        unfold eqF
        rw [this]
        simp [hl]) ⟨0, by omega, by omega, fun j hj => by omega⟩
  · exact h.elim
theorem take_set_next {α : Type} (xs ys : List α) (n : Nat) (e : α) (hx : xs[n]? = some e) (hy : ys.take n = xs.take n) (hl : n < ys.length) : (ys.set n e).take (n + 1) = xs.take (n + 1) := by
  rw [List.take_add_one, List.take_add_one, List.take_set_of_le (Nat.le_refl n), hy, List.getElem?_set_self hl, hx]
theorem h25 : G1Ok Try.prog 25 g25 := by
  intro args obs k h
  unfold g25 at h
  split at h
  · rename_i k xs
    obtain ⟨hlen, h⟩ := br_and h
    simp at hlen
    refine ⟨_, ctr_fn ok0 hg25 Try.func25 (by kernel_rfl) (by kernel_rfl) (by kernel_rfl) fun C => ?_, h⟩
    rw [e25]
    refine br_intro (fun hb => ?_) (fun hb => by simp at hb; omega)
    exact loopR okf25 hg25 (ι := {p : Int × List (Elem k3) // 0 ≤ p.1 ∧ p.1 ≤ xs.length ∧ p.2.length = xs.length ∧ p.2.take p.1.toNat = xs.take p.1.toNat}) (fun p => st25 xs p.1.1 p.1.2) (fun p => (xs.length - p.1.1).toNat) (fun ⟨(i, ys), h0, h1, hl, ht⟩ => by
      show evP E25 G25 _ (lp25 3) (st25 xs i ys) (rk25 _ _ 3 _)
      rw [b25]
      simp only at h0 h1 hl ht
      have hw1 : IntKind.i64.wrap (i + 1) = i + 1 := wrap_id (by omega) (by omega)
      rw [hw1]
      refine br_intro (fun h2 => ?_) (fun h2 => ?_)
      · simp at h2
        refine br_intro (fun _ => ?_) (fun h3 => by simp at h3; omega)
        refine br_intro (fun _ => ?_) (fun h3 => by simp at h3; omega)
        refine ⟨⟨(i + 1, ys.set i.toNat (at3 xs i.toNat)), by show 0 ≤ i + 1; omega, by show i + 1 ≤ _; omega, by simp [hl], ?_⟩, rfl, by show (xs.length - (i + 1)).toNat < (xs.length - i).toNat; omega⟩
        have e : (i + 1).toNat = i.toNat + 1 := by omega
        show (ys.set i.toNat _).take (i + 1).toNat = xs.take (i + 1).toNat
        rw [e]
        have hi : i.toNat < xs.length := by omega
        exact take_set_next xs ys i.toNat _ (by unfold at3; rw [List.getD_eq_getElem?_getD, List.getElem?_eq_getElem hi]; rfl) ht (by omega)
      · simp at h2
        show _ = _
        have e : i.toNat = xs.length := by omega
        rw [e, List.take_of_length_le (by omega), List.take_of_length_le (by omega)] at ht
        rw [ht]) ⟨(0, List.replicate xs.length (0, 0, 0, ())), by simp, by simp, by simp, by simp⟩
  · exact h.elim
end Go.Proofs.Ytjhjhkphcemcmaa.Ev
