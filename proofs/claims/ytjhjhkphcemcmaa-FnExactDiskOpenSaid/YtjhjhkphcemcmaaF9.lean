/- Contracts for disks: sizes, copies, equality. -/
import Derived.Test.YtjhjhkphcemcmaaF8
namespace Go.Proofs.Ytjhjhkphcemcmaa.Ev
open Go
set_option linter.unusedVariables false
set_option linter.unusedSimpArgs false
set_option maxRecDepth 100000
abbrev ks : List CK := [.str]
abbrev kl : List CK := [.int .i64, .int .i64, .str]
def szT (e : Elem ks) : Nat := e.1.size
def inT (e : Elem ks) : Bool := inS e.1
def szL (e : Elem kl) : Nat := e.2.2.1.size
def inLt (e : Elem kl) : Bool := inS e.2.2.1
theorem inT_of {e : Elem ks} (h : inT e = true) : szT e ≤ 9223372036854775807 := of_decide_eq_true h
def szTs (xs : List (Elem ks)) : Nat := xs.length + (xs.map szT).sum
def inTs (xs : List (Elem ks)) : Bool := decide (xs.length ≤ 9223372036854775807) && xs.all inT
def g131 : G1
  | [.rsl [.str] xs, .val (.int .i64 l)], [], k => br (inTs xs && inL l) (k ⟨.val (.int .i64 (szR l (szTs xs))), [], []⟩) False
  | _, _, _ => False
noncomputable def E131 : Env := E0.of Try.f131
noncomputable def G131 : Gk := gk []
noncomputable def lp131 (n : Nat) : Code := (loopOf n (codeOf Try.f131)).getD .skip
noncomputable def ct131 (L : Lp) (R : Option Res → Prop) (n : Nat) : Kt := contOf E131 G131 L n (codeOf Try.f131) (endK E131 Try.f131.results.toList R)
noncomputable def rk131 (L : Lp) (R : Option Res → Prop) (n : Nat) (N : St → Prop) : Kt := rk (jof E131 (lp131 n)) N (ct131 L R n)
noncomputable def LOOP131 (L : Lp) (R : Option Res → Prop) (n : Nat) (st : St) : Prop := L (lp131 n) st (ct131 L R n)
theorem hg131 : HG Try.prog G131 := hg_nil
theorem okf131 : Ok Try.prog E131 := ok0.of Try.f131
theorem e131 (L : Lp) (R : Option Res → Prop) (xs : List (Elem ks)) (l : Int) : (bodyP E0 G131 L Try.f131 [.rsl ks xs, .val (.int .i64 l)] [] R) = (
    br (decide (IntKind.i64.wrap (l - (↑xs.length : Int)) < 0))
      (R (some { av := AV.val (Value.int IntKind.i64 (-1)), obs := [], outs := [] }))
      (LOOP131 L R 5
        {
          tm :=
            [AV.rsl [CK.str] xs, AV.val (Value.int IntKind.i64 (IntKind.i64.wrap (l - (↑xs.length : Int)))),
              AV.val (Value.tuple #[]), AV.val (Value.tuple #[]), AV.val (Value.int IntKind.i64 0),
              AV.val (Value.int IntKind.i64 0), AV.val (Value.int IntKind.i64 l), AV.rsl [CK.str] xs,
              AV.val (Value.int IntKind.i64 (↑xs.length : Int)),
              AV.val (Value.int IntKind.i64 (IntKind.i64.wrap (l - (↑xs.length : Int)))),
              AV.val (Value.int IntKind.i64 (IntKind.i64.wrap (l - (↑xs.length : Int)))),
              AV.val (Value.bool (decide (IntKind.i64.wrap (l - (↑xs.length : Int)) < 0))), AV.junk, AV.junk, AV.junk,
              AV.junk, AV.junk, AV.junk, AV.junk, AV.junk, AV.junk, AV.junk, AV.junk, AV.junk, AV.junk, AV.junk, AV.junk,
              AV.val (Value.tuple #[])],
          ob := [], nx := 1000000, ps := [] })) := by kernel_rfl
def st131 (xs : List (Elem ks)) (l m i : Int) : St :=
  ⟨[AV.rsl [CK.str] xs, .val (.int .i64 m), AV.val (Value.tuple #[]), AV.val (Value.tuple #[]), AV.val (Value.int IntKind.i64 0), .val (.int .i64 i), AV.val (Value.int IntKind.i64 l), AV.rsl [CK.str] xs, AV.val (Value.int IntKind.i64 (↑xs.length : Int)), AV.val (Value.int IntKind.i64 (IntKind.i64.wrap (l - (↑xs.length : Int)))), AV.val (Value.int IntKind.i64 (IntKind.i64.wrap (l - (↑xs.length : Int)))), AV.val (Value.bool (decide (IntKind.i64.wrap (l - (↑xs.length : Int)) < 0))), AV.junk, AV.junk, AV.junk, AV.junk, AV.junk, AV.junk, AV.junk, AV.junk, AV.junk, AV.junk, AV.junk, AV.junk, AV.junk, AV.junk, AV.junk, AV.val (Value.tuple #[])],
    [], 1000000, []⟩
theorem b131 (L : Lp) (R : Option Res → Prop) (N : St → Prop) (xs : List (Elem ks)) (l m i : Int) : (evP E131 G131 L (lp131 5) (st131 xs l m i) (rk131 L R 5 N)) = (
    br (decide (i < (↑xs.length : Int)))
      (br (decide (0 ≤ i ∧ i < (↑xs.length : Int)))
        (br (decide (IntKind.i64.wrap (m - (↑(ByteArray.size (xs.getD i.toNat (edflt [CK.str])).fst) : Int)) < 0))
          (R (some { av := AV.val (Value.int IntKind.i64 (-1)), obs := [], outs := [] }))
          (N
            {
              tm :=
                [AV.rsl [CK.str] xs,
                  AV.val
                    (Value.int IntKind.i64
                      (IntKind.i64.wrap (m - (↑(ByteArray.size (xs.getD i.toNat (edflt [CK.str])).fst) : Int)))),
                  AV.val (Value.tuple #[]), AV.val (Value.tuple #[]), AV.val (Value.int IntKind.i64 0),
                  AV.val (Value.int IntKind.i64 (IntKind.i64.wrap (i + 1))), AV.val (Value.int IntKind.i64 l),
                  AV.rsl [CK.str] xs, AV.val (Value.int IntKind.i64 (↑xs.length : Int)),
                  AV.val (Value.int IntKind.i64 (IntKind.i64.wrap (l - (↑xs.length : Int)))),
                  AV.val (Value.int IntKind.i64 (IntKind.i64.wrap (l - (↑xs.length : Int)))),
                  AV.val (Value.bool (decide (IntKind.i64.wrap (l - (↑xs.length : Int)) < 0))), AV.junk, AV.junk, AV.junk,
                  AV.junk, AV.junk, AV.junk, AV.junk, AV.junk, AV.junk, AV.junk, AV.junk, AV.junk, AV.junk, AV.junk,
                  AV.junk, AV.val (Value.tuple #[])],
              ob := [], nx := 1000000, ps := [] }))
        False)
      (R (some { av := AV.val (Value.int IntKind.i64 m), obs := [], outs := [] }))) := by kernel_rfl
theorem h131 : G1Ok Try.prog 131 g131 := by
  intro args obs k h
  unfold g131 at h
  split at h
  · rename_i k xs l
    obtain ⟨hp, h⟩ := br_and h
    rw [Bool.and_eq_true] at hp
    obtain ⟨hB, hl⟩ := hp
    unfold inTs at hB
    rw [Bool.and_eq_true] at hB
    obtain ⟨hlen, hB⟩ := hB
    simp only [inL, decide_eq_true_eq] at hl hlen
    refine ⟨_, ctr_fn ok0 hg131 Try.func131 (by kernel_rfl) (by kernel_rfl) (by kernel_rfl) fun C => ?_, h⟩
    rw [e131]
    have e : szTs xs = xs.length + (xs.map szT).sum := rfl
    have hw0 := wrap_id (n := l - xs.length) (by omega) (by omega)
    refine br_dec (fun h => ?_) (fun h => ?_) <;> rw [hw0] at h
    · show _ = _
      rw [e, szR_neg (by omega)]
    · exact loopSz okf131 hg131 (fun i m => st131 xs l m i) xs (edflt ks) szT inT l (by omega) hl.2 hB (fun N i m hi h0 h1 hw hpr neg pos done => by
        show evP E131 G131 _ (lp131 5) (st131 xs l m i) (rk131 _ _ 5 _)
        rw [b131, hw, Int.toNat_natCast]
        show br _ (br _ (br (decide (IntKind.i64.wrap (m - ((szT (xs.getD i (edflt ks)) : Nat) : Int)) < 0)) _ (N (st131 xs l (IntKind.i64.wrap (m - ((szT (xs.getD i (edflt ks)) : Nat) : Int))) ((i : Int) + 1)))) False) _
        refine br_dec (fun h => br_yes ⟨by omega, h⟩ ?_) (fun h => ?_)
        · have hq : szT (xs.getD i (edflt ks)) ≤ 9223372036854775807 := inT_of (hpr (by omega))
          rw [wrap_id (n := m - ((szT (xs.getD i (edflt ks)) : Nat) : Int)) (by omega) (by omega)]
          refine br_dec (fun h2 => ?_) (fun h2 => ?_)
          · show _ = _
            rw [e, neg (by omega) (by omega)]
          · exact pos (by omega) (by omega)
        · show _ = _
          rw [e, done (by omega)]) _ hw0 (by omega)
  · exact h.elim
def g84 : G1
  | [.agg [.rsl [.str] a, .rsl [.str] b], .val (.int .i64 l)], [], k => br (inTs a && inTs b && inL l) (k ⟨.val (.int .i64 (szR l (szTs a + szTs b))), [], []⟩) False
  | _, _, _ => False
def g132 : G1
  | [.agg [.val (.int .i64 s), .val (.int .i64 a), .val (.string t)], .val (.int .i64 l)], [], k => br (inLt (s, a, t, ()) && inL l) (k ⟨.val (.int .i64 (szR l (szL (s, a, t, ())))), [], []⟩) False
  | _, _, _ => False
noncomputable def E84 : Env := E0.of Try.f84
noncomputable def G84 : Gk := gk [(131, g131)]
noncomputable def lp84 (n : Nat) : Code := (loopOf n (codeOf Try.f84)).getD .skip
noncomputable def ct84 (L : Lp) (R : Option Res → Prop) (n : Nat) : Kt := contOf E84 G84 L n (codeOf Try.f84) (endK E84 Try.f84.results.toList R)
noncomputable def rk84 (L : Lp) (R : Option Res → Prop) (n : Nat) (N : St → Prop) : Kt := rk (jof E84 (lp84 n)) N (ct84 L R n)
noncomputable def LOOP84 (L : Lp) (R : Option Res → Prop) (n : Nat) (st : St) : Prop := L (lp84 n) st (ct84 L R n)
theorem hg84 : HG Try.prog G84 := (hg_cons h131 hg_nil)
theorem okf84 : Ok Try.prog E84 := ok0.of Try.f84
theorem e84 (L : Lp) (R : Option Res → Prop) (a b : List (Elem ks)) (l : Int) : (bodyP E0 G84 L Try.f84 [.agg [.rsl ks a, .rsl ks b], .val (.int .i64 l)] [] R) = (
    LOOP84 L R 2
      {
        tm :=
          [AV.agg [AV.rsl [CK.str] a, AV.rsl [CK.str] b], AV.val (Value.int IntKind.i64 l), AV.ptr 0 0,
            AV.val (Value.tuple #[]), AV.val (Value.int IntKind.i64 0), AV.val (Value.int IntKind.i64 0), AV.junk, AV.junk,
            AV.junk, AV.junk, AV.junk, AV.junk, AV.junk, AV.junk, AV.junk, AV.junk, AV.junk, AV.val (Value.tuple #[])],
        ob := [(0, AO.box [AV.rsl [CK.str] a, AV.rsl [CK.str] b])], nx := 1000000, ps := [] }) := by kernel_rfl
def st84 (a b : List (Elem ks)) (m i : Int) : St :=
  ⟨[AV.agg [AV.rsl [CK.str] a, AV.rsl [CK.str] b], .val (.int .i64 m), AV.ptr 0 0, AV.val (Value.tuple #[]), AV.val (Value.int IntKind.i64 0), .val (.int .i64 i), AV.junk, AV.junk, AV.junk, AV.junk, AV.junk, AV.junk, AV.junk, AV.junk, AV.junk, AV.junk, AV.junk, AV.val (Value.tuple #[])],
    [(0, AO.box [AV.rsl [CK.str] a, AV.rsl [CK.str] b])], 1000000, []⟩
theorem b84_0 (L : Lp) (R : Option Res → Prop) (N : St → Prop) (a b : List (Elem ks)) (m : Int) : (evP E84 G84 L (lp84 2) (st84 a b m 0) (rk84 L R 2 N)) = (
    br (inTs a && inL m)
      (br (decide (szR m (szTs a) < 0)) (R (some { av := AV.val (Value.int IntKind.i64 (-1)), obs := [], outs := [] }))
        (N
          {
            tm :=
              [AV.agg [AV.rsl [CK.str] a, AV.rsl [CK.str] b], AV.val (Value.int IntKind.i64 (szR m (szTs a))), AV.ptr 0 0,
                AV.val (Value.tuple #[]), AV.val (Value.int IntKind.i64 0), AV.val (Value.int IntKind.i64 1), AV.junk,
                AV.junk, AV.junk, AV.junk, AV.junk, AV.junk, AV.junk, AV.junk, AV.junk, AV.junk, AV.junk,
                AV.val (Value.tuple #[])],
            ob := [(0, AO.box [AV.rsl [CK.str] a, AV.rsl [CK.str] b])], nx := 1000000, ps := [] }))
      False) := by kernel_rfl
theorem b84_1 (L : Lp) (R : Option Res → Prop) (N : St → Prop) (a b : List (Elem ks)) (m : Int) : (evP E84 G84 L (lp84 2) (st84 a b m 1) (rk84 L R 2 N)) = (
    br (inTs b && inL m)
      (br (decide (szR m (szTs b) < 0)) (R (some { av := AV.val (Value.int IntKind.i64 (-1)), obs := [], outs := [] }))
        (N
          {
            tm :=
              [AV.agg [AV.rsl [CK.str] a, AV.rsl [CK.str] b], AV.val (Value.int IntKind.i64 (szR m (szTs b))), AV.ptr 0 0,
                AV.val (Value.tuple #[]), AV.val (Value.int IntKind.i64 0), AV.val (Value.int IntKind.i64 2), AV.junk,
                AV.junk, AV.junk, AV.junk, AV.junk, AV.junk, AV.junk, AV.junk, AV.junk, AV.junk, AV.junk,
                AV.val (Value.tuple #[])],
            ob := [(0, AO.box [AV.rsl [CK.str] a, AV.rsl [CK.str] b])], nx := 1000000, ps := [] }))
      False) := by kernel_rfl
theorem b84_2 (L : Lp) (R : Option Res → Prop) (N : St → Prop) (a b : List (Elem ks)) (m : Int) : (evP E84 G84 L (lp84 2) (st84 a b m 2) (rk84 L R 2 N)) = (
    R (some { av := AV.val (Value.int IntKind.i64 m), obs := [], outs := [] })) := by kernel_rfl
theorem brb2 {p q : Bool} {t : Prop} (h : br (p && q) t False) : p = true ∧ q = true ∧ t := by
  obtain ⟨h1, h2⟩ := br_and h
  rw [Bool.and_eq_true] at h1
  exact ⟨h1.1, h1.2, h2⟩
def pre84 (a b : Nat) : Nat → Nat
  | 0 => 0
  | 1 => a
  | _ => a + b
theorem h84 : G1Ok Try.prog 84 g84 := by
  intro args obs k h
  unfold g84 at h
  split at h
  · rename_i k a b l
    obtain ⟨hp, hl, h⟩ := brb2 h
    rw [Bool.and_eq_true] at hp
    simp only [inL, decide_eq_true_eq] at hl
    refine ⟨_, ctr_fn ok0 hg84 Try.func84 (by kernel_rfl) (by kernel_rfl) (by kernel_rfl) fun C => ?_, h⟩
    rw [e84]
    refine loopUp okf84 hg84 (fun i m => st84 a b m i) 2 (fun i m => 0 ≤ m ∧ m = l - pre84 (szTs a) (szTs b) i) (fun N i m hi ⟨h0, h1⟩ next => ?_) l ⟨hl.1, by simp [pre84]⟩
    have cs : i = 0 ∨ i = 1 ∨ i = 2 := by omega
    rcases cs with rfl | rfl | rfl
    · show evP E84 G84 _ (lp84 2) (st84 a b m 0) (rk84 _ _ 2 _)
      have h1 : m = l := by simpa [pre84] using h1
      subst h1
      rw [b84_0]
      refine br_t (by rw [hp.1]; simpa [inL] using hl) (br_dec (fun h => ?_) (fun h => ?_))
      · show _ = _
        rw [szR_neg (by have := szR_lt0 h; omega)]
      · have := szR_ge0 h
        rw [szR_pos this]
        exact next (by omega) _ ⟨by omega, rfl⟩
    · show evP E84 G84 _ (lp84 2) (st84 a b m 1) (rk84 _ _ 2 _)
      have h1 : m = l - szTs a := h1
      rw [b84_1]
      refine br_t (by rw [hp.2]; simp only [inL, Bool.true_and, decide_eq_true_eq]; omega) (br_dec (fun h => ?_) (fun h => ?_))
      · show _ = _
        rw [szR_neg (by have := szR_lt0 h; omega)]
      · have := szR_ge0 h
        rw [szR_pos this]
        exact next (by omega) _ ⟨by omega, by show _ = l - ((szTs a + szTs b : Nat) : Int); omega⟩
    · show evP E84 G84 _ (lp84 2) (st84 a b m 2) (rk84 _ _ 2 _)
      have h1 : m = l - ((szTs a + szTs b : Nat) : Int) := h1
      rw [b84_2]
      show _ = _
      rw [szR_pos (by omega), h1]
  · exact h.elim
noncomputable def E132 : Env := E0.of Try.f132
noncomputable def G132 : Gk := gk []
noncomputable def lp132 (n : Nat) : Code := (loopOf n (codeOf Try.f132)).getD .skip
noncomputable def ct132 (L : Lp) (R : Option Res → Prop) (n : Nat) : Kt := contOf E132 G132 L n (codeOf Try.f132) (endK E132 Try.f132.results.toList R)
noncomputable def rk132 (L : Lp) (R : Option Res → Prop) (n : Nat) (N : St → Prop) : Kt := rk (jof E132 (lp132 n)) N (ct132 L R n)
noncomputable def LOOP132 (L : Lp) (R : Option Res → Prop) (n : Nat) (st : St) : Prop := L (lp132 n) st (ct132 L R n)
theorem hg132 : HG Try.prog G132 := hg_nil
theorem okf132 : Ok Try.prog E132 := ok0.of Try.f132
theorem e132 (L : Lp) (R : Option Res → Prop) (s a : Int) (t : ByteArray) (l : Int) : (bodyP E0 G132 L Try.f132 [.agg [.val (.int .i64 s), .val (.int .i64 a), .val (.string t)], .val (.int .i64 l)] [] R) = (
    br (decide (IntKind.i64.wrap (l - (↑t.size : Int)) < 0))
      (R (some { av := AV.val (Value.int IntKind.i64 (-1)), obs := [], outs := [] }))
      (R (some { av := AV.val (Value.int IntKind.i64 (IntKind.i64.wrap (l - (↑t.size : Int)))), obs := [], outs := [] }))) := by kernel_rfl
theorem h132 : G1Ok Try.prog 132 g132 := by
  intro args obs k h
  unfold g132 at h
  split at h
  · rename_i k s a t l
    obtain ⟨hp, h⟩ := br_and h
    rw [Bool.and_eq_true] at hp
    obtain ⟨hB, hl⟩ := hp
    simp only [inL, inLt, inS, decide_eq_true_eq] at hl hB
    refine ⟨_, ctr_fn ok0 hg132 Try.func132 (by kernel_rfl) (by kernel_rfl) (by kernel_rfl) fun C => ?_, h⟩
    rw [e132]
    rw [wrap_id (n := l - t.size) (by omega) (by omega)]
    have e : szL (s, a, t, ()) = t.size := rfl
    rw [e]
    refine br_dec (fun h => ?_) (fun h => ?_)
    · rw [szR_neg (by omega)]
    · rw [szR_pos (by omega)]
  · exact h.elim
def szLs (xs : List (Elem kl)) : Nat := xs.length + (xs.map szL).sum
def inLts (xs : List (Elem kl)) : Bool := decide (xs.length ≤ 9223372036854775807) && xs.all inLt
def g85 : G1
  | [.rsl [.int .i64, .int .i64, .str] xs, .val (.int .i64 l)], [], k => br (inLts xs && inL l) (k ⟨.val (.int .i64 (szR l (szLs xs))), [], []⟩) False
  | _, _, _ => False
noncomputable def E85 : Env := E0.of Try.f85
noncomputable def G85 : Gk := gk [(132, g132)]
noncomputable def lp85 (n : Nat) : Code := (loopOf n (codeOf Try.f85)).getD .skip
noncomputable def ct85 (L : Lp) (R : Option Res → Prop) (n : Nat) : Kt := contOf E85 G85 L n (codeOf Try.f85) (endK E85 Try.f85.results.toList R)
noncomputable def rk85 (L : Lp) (R : Option Res → Prop) (n : Nat) (N : St → Prop) : Kt := rk (jof E85 (lp85 n)) N (ct85 L R n)
noncomputable def LOOP85 (L : Lp) (R : Option Res → Prop) (n : Nat) (st : St) : Prop := L (lp85 n) st (ct85 L R n)
theorem hg85 : HG Try.prog G85 := (hg_cons h132 hg_nil)
theorem okf85 : Ok Try.prog E85 := ok0.of Try.f85
theorem e85 (L : Lp) (R : Option Res → Prop) (xs : List (Elem kl)) (l : Int) : (bodyP E0 G85 L Try.f85 [.rsl kl xs, .val (.int .i64 l)] [] R) = (
    br (decide (IntKind.i64.wrap (l - (↑xs.length : Int)) < 0))
      (R (some { av := AV.val (Value.int IntKind.i64 (-1)), obs := [], outs := [] }))
      (LOOP85 L R 5
        {
          tm :=
            [AV.rsl [CK.int IntKind.i64, CK.int IntKind.i64, CK.str] xs,
              AV.val (Value.int IntKind.i64 (IntKind.i64.wrap (l - (↑xs.length : Int)))), AV.val (Value.tuple #[]),
              AV.val (Value.tuple #[]), AV.val (Value.int IntKind.i64 0), AV.val (Value.int IntKind.i64 0),
              AV.val (Value.int IntKind.i64 l), AV.rsl [CK.int IntKind.i64, CK.int IntKind.i64, CK.str] xs,
              AV.val (Value.int IntKind.i64 (↑xs.length : Int)),
              AV.val (Value.int IntKind.i64 (IntKind.i64.wrap (l - (↑xs.length : Int)))),
              AV.val (Value.int IntKind.i64 (IntKind.i64.wrap (l - (↑xs.length : Int)))),
              AV.val (Value.bool (decide (IntKind.i64.wrap (l - (↑xs.length : Int)) < 0))), AV.junk, AV.junk, AV.junk,
              AV.junk, AV.junk, AV.junk, AV.junk, AV.junk, AV.junk, AV.junk, AV.junk, AV.junk, AV.junk, AV.junk,
              AV.val (Value.tuple #[])],
          ob := [], nx := 1000000, ps := [] })) := by kernel_rfl
def st85 (xs : List (Elem kl)) (l m i : Int) : St :=
  ⟨[AV.rsl [CK.int IntKind.i64, CK.int IntKind.i64, CK.str] xs, .val (.int .i64 m), AV.val (Value.tuple #[]), AV.val (Value.tuple #[]), AV.val (Value.int IntKind.i64 0), .val (.int .i64 i), AV.val (Value.int IntKind.i64 l), AV.rsl [CK.int IntKind.i64, CK.int IntKind.i64, CK.str] xs, AV.val (Value.int IntKind.i64 (↑xs.length : Int)), AV.val (Value.int IntKind.i64 (IntKind.i64.wrap (l - (↑xs.length : Int)))), AV.val (Value.int IntKind.i64 (IntKind.i64.wrap (l - (↑xs.length : Int)))), AV.val (Value.bool (decide (IntKind.i64.wrap (l - (↑xs.length : Int)) < 0))), AV.junk, AV.junk, AV.junk, AV.junk, AV.junk, AV.junk, AV.junk, AV.junk, AV.junk, AV.junk, AV.junk, AV.junk, AV.junk, AV.junk, AV.val (Value.tuple #[])],
    [], 1000000, []⟩
theorem b85 (L : Lp) (R : Option Res → Prop) (N : St → Prop) (xs : List (Elem kl)) (l m i : Int) : (evP E85 G85 L (lp85 5) (st85 xs l m i) (rk85 L R 5 N)) = (
    br (decide (i < (↑xs.length : Int)))
      (br (decide (0 ≤ i ∧ i < (↑xs.length : Int)))
        (br (inLt (xs.getD i.toNat (edflt [CK.int IntKind.i64, CK.int IntKind.i64, CK.str])) && inL m)
          (br (decide (szR m (szL (xs.getD i.toNat (edflt [CK.int IntKind.i64, CK.int IntKind.i64, CK.str]))) < 0))
            (R (some { av := AV.val (Value.int IntKind.i64 (-1)), obs := [], outs := [] }))
            (N
              {
                tm :=
                  [AV.rsl [CK.int IntKind.i64, CK.int IntKind.i64, CK.str] xs,
                    AV.val
                      (Value.int IntKind.i64
                        (szR m (szL (xs.getD i.toNat (edflt [CK.int IntKind.i64, CK.int IntKind.i64, CK.str]))))),
                    AV.val (Value.tuple #[]), AV.val (Value.tuple #[]), AV.val (Value.int IntKind.i64 0),
                    AV.val (Value.int IntKind.i64 (IntKind.i64.wrap (i + 1))), AV.val (Value.int IntKind.i64 l),
                    AV.rsl [CK.int IntKind.i64, CK.int IntKind.i64, CK.str] xs,
                    AV.val (Value.int IntKind.i64 (↑xs.length : Int)),
                    AV.val (Value.int IntKind.i64 (IntKind.i64.wrap (l - (↑xs.length : Int)))),
                    AV.val (Value.int IntKind.i64 (IntKind.i64.wrap (l - (↑xs.length : Int)))),
                    AV.val (Value.bool (decide (IntKind.i64.wrap (l - (↑xs.length : Int)) < 0))), AV.junk, AV.junk, AV.junk,
                    AV.junk, AV.junk, AV.junk, AV.junk, AV.junk, AV.junk, AV.junk, AV.junk, AV.junk, AV.junk, AV.junk,
                    AV.val (Value.tuple #[])],
                ob := [], nx := 1000000, ps := [] }))
          False)
        False)
      (R (some { av := AV.val (Value.int IntKind.i64 m), obs := [], outs := [] }))) := by kernel_rfl
theorem h85 : G1Ok Try.prog 85 g85 := by
  intro args obs k h
  unfold g85 at h
  split at h
  · rename_i k xs l
    obtain ⟨hp, h⟩ := br_and h
    rw [Bool.and_eq_true] at hp
    obtain ⟨hB, hl⟩ := hp
    unfold inLts at hB
    rw [Bool.and_eq_true] at hB
    obtain ⟨hlen, hB⟩ := hB
    simp only [inL, decide_eq_true_eq] at hl hlen
    refine ⟨_, ctr_fn ok0 hg85 Try.func85 (by kernel_rfl) (by kernel_rfl) (by kernel_rfl) fun C => ?_, h⟩
    rw [e85]
    have e : szLs xs = xs.length + (xs.map szL).sum := rfl
    have hw0 := wrap_id (n := l - xs.length) (by omega) (by omega)
    refine br_dec (fun h => ?_) (fun h => ?_) <;> rw [hw0] at h
    · show _ = _
      rw [e, szR_neg (by omega)]
    · exact loopSz okf85 hg85 (fun i m => st85 xs l m i) xs (edflt kl) szL inLt l (by omega) hl.2 hB (fun N i m hi h0 h1 hw hpr neg pos done => by
        show evP E85 G85 _ (lp85 5) (st85 xs l m i) (rk85 _ _ 5 _)
        rw [b85, hw, Int.toNat_natCast]
        refine br_dec (fun h => br_yes ⟨by omega, h⟩ (br_t ?_ (br_dec (fun h2 => ?_) (fun h2 => ?_)))) (fun h => ?_)
        · rw [Bool.and_eq_true]
          exact ⟨hpr (by omega), by simp only [inL, decide_eq_true_eq]; omega⟩
        · show _ = _
          rw [e, neg (by omega) (szR_lt0 h2)]
        · rw [szR_pos (szR_ge0 h2)]
          exact pos (by omega) (szR_ge0 h2)
        · show _ = _
          rw [e, done (by omega)]) _ hw0 (by omega)
  · exact h.elim
def inD (a b : List (Elem ks)) (c : List (Elem kl)) : Bool := inTs a && inTs b && inLts c
def szD (a b : List (Elem ks)) (c : List (Elem kl)) : Nat := szTs a + szTs b + szLs c
def smD (a b : List (Elem ks)) (c : List (Elem kl)) : Bool := decide (a.length ≤ 1048576) && decide (b.length ≤ 1048576) && decide (c.length ≤ 1048576)
def eqD (a b : List (Elem ks)) (c : List (Elem kl)) (a' b' : List (Elem ks)) (c' : List (Elem kl)) : Bool := eqR ks a a' && eqR ks b b' && eqR kl c c'
def g40 : G1
  | [.agg [.rsl [.str] a, .rsl [.str] b, .rsl [.int .i64, .int .i64, .str] c], .val (.int .i64 l)], [], k => br (inD a b c && inL l) (k ⟨.val (.int .i64 (szR l (szD a b c))), [], []⟩) False
  | _, _, _ => False
noncomputable def E40 : Env := E0.of Try.f40
noncomputable def G40 : Gk := gk [(84, g84), (85, g85)]
noncomputable def lp40 (n : Nat) : Code := (loopOf n (codeOf Try.f40)).getD .skip
noncomputable def ct40 (L : Lp) (R : Option Res → Prop) (n : Nat) : Kt := contOf E40 G40 L n (codeOf Try.f40) (endK E40 Try.f40.results.toList R)
noncomputable def rk40 (L : Lp) (R : Option Res → Prop) (n : Nat) (N : St → Prop) : Kt := rk (jof E40 (lp40 n)) N (ct40 L R n)
noncomputable def LOOP40 (L : Lp) (R : Option Res → Prop) (n : Nat) (st : St) : Prop := L (lp40 n) st (ct40 L R n)
theorem hg40 : HG Try.prog G40 := (hg_cons h84 (hg_cons h85 hg_nil))
theorem okf40 : Ok Try.prog E40 := ok0.of Try.f40
theorem e40 (L : Lp) (R : Option Res → Prop) (a b : List (Elem ks)) (c : List (Elem kl)) (l : Int) : (bodyP E0 G40 L Try.f40 [.agg [.rsl ks a, .rsl ks b, .rsl kl c], .val (.int .i64 l)] [] R) = (
    br (inTs a && inTs b && inL l)
      (br (decide (szR l (szTs a + szTs b) < 0))
        (R (some { av := AV.val (Value.int IntKind.i64 (-1)), obs := [], outs := [] }))
        (br (inLts c && inL (szR l (szTs a + szTs b)))
          (br (decide (szR (szR l (szTs a + szTs b)) (szLs c) < 0))
            (R (some { av := AV.val (Value.int IntKind.i64 (-1)), obs := [], outs := [] }))
            (R
              (some
                { av := AV.val (Value.int IntKind.i64 (szR (szR l (szTs a + szTs b)) (szLs c))), obs := [], outs := [] })))
          False))
      False) := by kernel_rfl
theorem h40 : G1Ok Try.prog 40 g40 := by
  intro args obs k h
  unfold g40 at h
  split at h
  · rename_i k a b c l
    obtain ⟨hp, hl, h⟩ := brb2 h
    unfold inD at hp
    rw [Bool.and_eq_true] at hp
    have hl' := hl
    simp only [inL, decide_eq_true_eq] at hl'
    refine ⟨_, ctr_fn ok0 hg40 Try.func40 (by kernel_rfl) (by kernel_rfl) (by kernel_rfl) fun C => ?_, h⟩
    rw [e40]
    have e : szD a b c = szTs a + szTs b + szLs c := rfl
    rw [e]
    refine br_t (by rw [hp.1, hl]; rfl) (br_dec (fun h => ?_) (fun h => ?_))
    · show _ = _
      rw [szR_neg (by have := szR_lt0 h; omega)]
    · have h2 := szR_ge0 h
      rw [szR_pos h2]
      refine br_t (by rw [hp.2]; simp only [inL, Bool.true_and, decide_eq_true_eq]; omega) (br_dec (fun h => ?_) (fun h => ?_))
      · show _ = _
        rw [szR_neg (by have := szR_lt0 h; omega)]
      · have h3 := szR_ge0 h
        show _ = _
        rw [szR_pos h3, szR_pos (l := l) (by omega)]
        congr 4
        omega
  · exact h.elim
def g133 : G1
  | [.rsl [.str] xs], [], k => br (decide (xs.length ≤ 1048576)) (k ⟨.ows 0, [.row ks xs], []⟩) False
  | _, _, _ => False
noncomputable def E133 : Env := E0.of Try.f133
noncomputable def G133 : Gk := gk []
noncomputable def lp133 (n : Nat) : Code := (loopOf n (codeOf Try.f133)).getD .skip
noncomputable def ct133 (L : Lp) (R : Option Res → Prop) (n : Nat) : Kt := contOf E133 G133 L n (codeOf Try.f133) (endK E133 Try.f133.results.toList R)
noncomputable def rk133 (L : Lp) (R : Option Res → Prop) (n : Nat) (N : St → Prop) : Kt := rk (jof E133 (lp133 n)) N (ct133 L R n)
noncomputable def LOOP133 (L : Lp) (R : Option Res → Prop) (n : Nat) (st : St) : Prop := L (lp133 n) st (ct133 L R n)
theorem hg133 : HG Try.prog G133 := hg_nil
theorem okf133 : Ok Try.prog E133 := ok0.of Try.f133
theorem e133 (L : Lp) (R : Option Res → Prop) (xs : List (Elem ks)) : (bodyP E0 G133 L Try.f133 [.rsl ks xs] [] R) = (
    br
      (decide
        (0 ≤ (↑xs.length : Int) ∧ (↑xs.length : Int) ≤ (↑xs.length : Int) ∧ 16 * (↑xs.length : Int) ≤ 281474976710656))
      (LOOP133 L R 3
        {
          tm :=
            [AV.rsl [CK.str] xs, AV.val (Value.tuple #[]), AV.ows 0, AV.ows 1, AV.val (Value.int IntKind.i64 0),
              AV.rsl [CK.str] xs, AV.val (Value.int IntKind.i64 (↑xs.length : Int)), AV.ows 1, AV.junk, AV.junk, AV.junk,
              AV.junk, AV.junk, AV.junk, AV.junk, AV.junk, AV.junk, AV.junk, AV.junk, AV.junk, AV.junk,
              AV.val (Value.tuple #[])],
          ob := [(0, AO.row [CK.str] []), (1, AO.row [CK.str] (List.replicate (↑xs.length : Int).toNat (edflt [CK.str])))],
          nx := 1000000, ps := [] })
      False) := by kernel_rfl
def st133 (xs : List (Elem ks)) (i : Int) (ys : List (Elem ks)) : St :=
  ⟨[AV.rsl [CK.str] xs, AV.val (Value.tuple #[]), AV.ows 0, AV.ows 1, .val (.int .i64 i), AV.rsl [CK.str] xs, AV.val (Value.int IntKind.i64 (↑xs.length : Int)), AV.ows 1, AV.junk, AV.junk, AV.junk, AV.junk, AV.junk, AV.junk, AV.junk, AV.junk, AV.junk, AV.junk, AV.junk, AV.junk, AV.junk, AV.val (Value.tuple #[])],
    [(0, AO.row [CK.str] []), (1, .row ks ys)], 1000000, []⟩
theorem b133 (L : Lp) (R : Option Res → Prop) (N : St → Prop) (xs : List (Elem ks)) (i : Int) (ys : List (Elem ks)) : (evP E133 G133 L (lp133 3) (st133 xs i ys) (rk133 L R 3 N)) = (
    br (decide (i < (↑xs.length : Int)))
      (br (decide (0 ≤ i ∧ i < (↑xs.length : Int)))
        (br (decide (0 ≤ i ∧ i < (↑ys.length : Int)))
          (N
            {
              tm :=
                [AV.rsl [CK.str] xs, AV.val (Value.tuple #[]), AV.ows 0, AV.ows 1,
                  AV.val (Value.int IntKind.i64 (IntKind.i64.wrap (i + 1))), AV.rsl [CK.str] xs,
                  AV.val (Value.int IntKind.i64 (↑xs.length : Int)), AV.ows 1, AV.junk, AV.junk, AV.junk, AV.junk, AV.junk,
                  AV.junk, AV.junk, AV.junk, AV.junk, AV.junk, AV.junk, AV.junk, AV.junk, AV.val (Value.tuple #[])],
              ob := [(0, AO.row [CK.str] []), (1, AO.row [CK.str] (ys.set i.toNat (xs.getD i.toNat (edflt [CK.str]))))],
              nx := 1000000, ps := [] })
          False)
        False)
      (R (some { av := AV.ows 0, obs := [AO.row [CK.str] ys], outs := [] }))) := by kernel_rfl
theorem h133 : G1Ok Try.prog 133 g133 := by
  intro args obs k h
  unfold g133 at h
  split at h
  · rename_i k xs
    obtain ⟨hlen, h⟩ := brd h
    refine ⟨_, ctr_fn ok0 hg133 Try.func133 (by kernel_rfl) (by kernel_rfl) (by kernel_rfl) fun C => ?_, h⟩
    rw [e133]
    refine br_yes ⟨by omega, by omega, by omega⟩ ?_
    exact loopUp okf133 hg133 (fun i ys => st133 xs i ys) xs.length (Cp xs) (fun N i ys hi hc next => by
      show evP E133 G133 _ (lp133 3) (st133 xs i ys) (rk133 _ _ 3 _)
      rw [b133, wrap_id (n := (i : Int) + 1) (by omega) (by omega), Int.toNat_natCast]
      have hl := hc.len
      refine br_dec (fun h2 => ?_) (fun h2 => ?_)
      · refine br_yes ⟨by omega, h2⟩ (br_yes ⟨by omega, by omega⟩ ?_)
        exact next (by omega) _ (hc.next (by omega))
      · show _ = _
        rw [hc.done (by omega)]) _ (Cp.zero xs _)
  · exact h.elim
def g87 : G1
  | [.agg [.rsl [.str] a, .rsl [.str] b]], [], k => br (decide (a.length ≤ 1048576) && decide (b.length ≤ 1048576)) (k ⟨.agg [.ows 0, .ows 1], [.row ks a, .row ks b], []⟩) False
  | _, _, _ => False
noncomputable def E87 : Env := E0.of Try.f87
noncomputable def G87 : Gk := gk [(133, g133)]
noncomputable def lp87 (n : Nat) : Code := (loopOf n (codeOf Try.f87)).getD .skip
noncomputable def ct87 (L : Lp) (R : Option Res → Prop) (n : Nat) : Kt := contOf E87 G87 L n (codeOf Try.f87) (endK E87 Try.f87.results.toList R)
noncomputable def rk87 (L : Lp) (R : Option Res → Prop) (n : Nat) (N : St → Prop) : Kt := rk (jof E87 (lp87 n)) N (ct87 L R n)
noncomputable def LOOP87 (L : Lp) (R : Option Res → Prop) (n : Nat) (st : St) : Prop := L (lp87 n) st (ct87 L R n)
theorem hg87 : HG Try.prog G87 := (hg_cons h133 hg_nil)
theorem okf87 : Ok Try.prog E87 := ok0.of Try.f87
theorem e87 (L : Lp) (R : Option Res → Prop) (a b : List (Elem ks)) : (bodyP E0 G87 L Try.f87 [.agg [.rsl ks a, .rsl ks b]] [] R) = (
    LOOP87 L R 3
      {
        tm :=
          [AV.agg [AV.rsl [CK.str] a, AV.rsl [CK.str] b], AV.ptr 0 0, AV.ptr 1 0, AV.ptr 4 0,
            AV.val (Value.int IntKind.i64 0), AV.junk, AV.junk, AV.junk, AV.junk, AV.junk, AV.junk, AV.junk, AV.junk,
            AV.junk, AV.junk, AV.val (Value.tuple #[])],
        ob :=
          [(0, AO.box [AV.rsl [CK.str] a, AV.rsl [CK.str] b]), (1, AO.box [AV.ows 2, AV.ows 3]), (2, AO.row [CK.str] []),
            (3, AO.row [CK.str] []), (4, AO.box [AV.ows 5, AV.ows 6]), (5, AO.row [CK.str] []), (6, AO.row [CK.str] [])],
        nx := 1000000, ps := [] }) := by kernel_rfl
def st87 (a b : List (Elem ks)) (i : Int) (x y : List (Elem ks)) : St :=
  ⟨[AV.agg [AV.rsl [CK.str] a, AV.rsl [CK.str] b], AV.ptr 0 0, AV.ptr 1 0, AV.ptr 4 0, .val (.int .i64 i), AV.junk, AV.junk, AV.junk, AV.junk, AV.junk, AV.junk, AV.junk, AV.junk, AV.junk, AV.junk, AV.val (Value.tuple #[])],
    [(0, AO.box [AV.rsl [CK.str] a, AV.rsl [CK.str] b]), (1, AO.box [AV.ows 2, AV.ows 3]), (2, AO.row [CK.str] []), (3, AO.row [CK.str] []), (4, AO.box [AV.ows 5, AV.ows 6]), (5, .row ks x), (6, .row ks y)], 1000000, []⟩
theorem b87_0 (L : Lp) (R : Option Res → Prop) (N : St → Prop) (a b : List (Elem ks)) : (evP E87 G87 L (lp87 3) (st87 a b 0 [] []) (rk87 L R 3 N)) = (
    br (decide (a.length ≤ 1048576))
      (N
        {
          tm :=
            [AV.agg [AV.rsl [CK.str] a, AV.rsl [CK.str] b], AV.ptr 0 0, AV.ptr 1 0, AV.ptr 4 0,
              AV.val (Value.int IntKind.i64 1), AV.junk, AV.junk, AV.junk, AV.junk, AV.junk, AV.junk, AV.junk, AV.junk,
              AV.junk, AV.junk, AV.val (Value.tuple #[])],
          ob :=
            [(0, AO.box [AV.rsl [CK.str] a, AV.rsl [CK.str] b]), (1, AO.box [AV.ows 2, AV.ows 3]), (2, AO.row [CK.str] []),
              (3, AO.row [CK.str] []), (4, AO.box [AV.ows 5, AV.ows 6]), (5, AO.row [CK.str] a), (6, AO.row [CK.str] [])],
          nx := 1000000, ps := [] })
      False) := by kernel_rfl
theorem b87_1 (L : Lp) (R : Option Res → Prop) (N : St → Prop) (a b : List (Elem ks)) : (evP E87 G87 L (lp87 3) (st87 a b 1 a []) (rk87 L R 3 N)) = (
    br (decide (b.length ≤ 1048576))
      (N
        {
          tm :=
            [AV.agg [AV.rsl [CK.str] a, AV.rsl [CK.str] b], AV.ptr 0 0, AV.ptr 1 0, AV.ptr 4 0,
              AV.val (Value.int IntKind.i64 2), AV.junk, AV.junk, AV.junk, AV.junk, AV.junk, AV.junk, AV.junk, AV.junk,
              AV.junk, AV.junk, AV.val (Value.tuple #[])],
          ob :=
            [(0, AO.box [AV.rsl [CK.str] a, AV.rsl [CK.str] b]), (1, AO.box [AV.ows 2, AV.ows 3]), (2, AO.row [CK.str] []),
              (3, AO.row [CK.str] []), (4, AO.box [AV.ows 5, AV.ows 6]), (5, AO.row [CK.str] a), (6, AO.row [CK.str] b)],
          nx := 1000000, ps := [] })
      False) := by kernel_rfl
theorem b87_2 (L : Lp) (R : Option Res → Prop) (N : St → Prop) (a b : List (Elem ks)) : (evP E87 G87 L (lp87 3) (st87 a b 2 a b) (rk87 L R 3 N)) = (
    R (some { av := AV.agg [AV.ows 0, AV.ows 1], obs := [AO.row [CK.str] a, AO.row [CK.str] b], outs := [] })) := by kernel_rfl
theorem h87 : G1Ok Try.prog 87 g87 := by
  intro args obs k h
  unfold g87 at h
  split at h
  · rename_i k a b
    obtain ⟨ha, hb, h⟩ := brb2 h
    refine ⟨_, ctr_fn ok0 hg87 Try.func87 (by kernel_rfl) (by kernel_rfl) (by kernel_rfl) fun C => ?_, h⟩
    rw [e87]
    refine loopSeq okf87 hg87 (fun | 0 => st87 a b 0 [] [] | 1 => st87 a b 1 a [] | _ => st87 a b 2 a b) 2 (fun N i hi next => ?_) (fun N => ?_)
    · have cs : i = 0 ∨ i = 1 := by omega
      rcases cs with rfl | rfl
      · show evP E87 G87 _ (lp87 3) (st87 a b 0 [] []) (rk87 _ _ 3 _)
        rw [b87_0]
        exact br_t ha next
      · show evP E87 G87 _ (lp87 3) (st87 a b 1 a []) (rk87 _ _ 3 _)
        rw [b87_1]
        exact br_t hb next
    · show evP E87 G87 _ (lp87 3) (st87 a b 2 a b) (rk87 _ _ 3 _)
      rw [b87_2]
  · exact h.elim
def g134 : G1
  | [.agg [.val (.int .i64 a0), .val (.int .i64 a1), .val (.string a2)]], [], k => k ⟨.agg [.val (.int .i64 a0), .val (.int .i64 a1), .val (.string a2)], [], []⟩
  | _, _, _ => False
noncomputable def E134 : Env := E0.of Try.f134
noncomputable def G134 : Gk := gk []
noncomputable def lp134 (n : Nat) : Code := (loopOf n (codeOf Try.f134)).getD .skip
noncomputable def ct134 (L : Lp) (R : Option Res → Prop) (n : Nat) : Kt := contOf E134 G134 L n (codeOf Try.f134) (endK E134 Try.f134.results.toList R)
noncomputable def rk134 (L : Lp) (R : Option Res → Prop) (n : Nat) (N : St → Prop) : Kt := rk (jof E134 (lp134 n)) N (ct134 L R n)
noncomputable def LOOP134 (L : Lp) (R : Option Res → Prop) (n : Nat) (st : St) : Prop := L (lp134 n) st (ct134 L R n)
theorem hg134 : HG Try.prog G134 := hg_nil
theorem okf134 : Ok Try.prog E134 := ok0.of Try.f134
theorem e134 (L : Lp) (R : Option Res → Prop) (a0 : Int) (a1 : Int) (a2 : ByteArray) : (bodyP E0 G134 L Try.f134 [.agg [.val (.int .i64 a0), .val (.int .i64 a1), .val (.string a2)]] [] R) = (
    R
      (some
        { av := AV.agg [AV.val (Value.int IntKind.i64 a0), AV.val (Value.int IntKind.i64 a1), AV.val (Value.string a2)],
          obs := [], outs := [] })) := by kernel_rfl
theorem h134 : G1Ok Try.prog 134 g134 := by
  intro args obs k h
  unfold g134 at h
  split at h
  · rename_i k a0 a1 a2
    refine ⟨_, ctr_fn ok0 hg134 Try.func134 (by kernel_rfl) (by kernel_rfl) (by kernel_rfl) fun C => ?_, h⟩
    rw [e134]
  · exact h.elim
def g88 : G1
  | [.rsl [.int .i64, .int .i64, .str] xs], [], k => br (decide (xs.length ≤ 1048576)) (k ⟨.ows 0, [.row kl xs], []⟩) False
  | _, _, _ => False
noncomputable def E88 : Env := E0.of Try.f88
noncomputable def G88 : Gk := gk [(134, g134)]
noncomputable def lp88 (n : Nat) : Code := (loopOf n (codeOf Try.f88)).getD .skip
noncomputable def ct88 (L : Lp) (R : Option Res → Prop) (n : Nat) : Kt := contOf E88 G88 L n (codeOf Try.f88) (endK E88 Try.f88.results.toList R)
noncomputable def rk88 (L : Lp) (R : Option Res → Prop) (n : Nat) (N : St → Prop) : Kt := rk (jof E88 (lp88 n)) N (ct88 L R n)
noncomputable def LOOP88 (L : Lp) (R : Option Res → Prop) (n : Nat) (st : St) : Prop := L (lp88 n) st (ct88 L R n)
theorem hg88 : HG Try.prog G88 := (hg_cons h134 hg_nil)
theorem okf88 : Ok Try.prog E88 := ok0.of Try.f88
theorem e88 (L : Lp) (R : Option Res → Prop) (xs : List (Elem kl)) : (bodyP E0 G88 L Try.f88 [.rsl kl xs] [] R) = (
    br
      (decide
        (0 ≤ (↑xs.length : Int) ∧ (↑xs.length : Int) ≤ (↑xs.length : Int) ∧ 32 * (↑xs.length : Int) ≤ 281474976710656))
      (LOOP88 L R 3
        {
          tm :=
            [AV.rsl [CK.int IntKind.i64, CK.int IntKind.i64, CK.str] xs, AV.val (Value.tuple #[]), AV.ows 0, AV.ows 1,
              AV.val (Value.int IntKind.i64 0), AV.rsl [CK.int IntKind.i64, CK.int IntKind.i64, CK.str] xs,
              AV.val (Value.int IntKind.i64 (↑xs.length : Int)), AV.ows 1, AV.junk, AV.junk, AV.junk, AV.junk, AV.junk,
              AV.junk, AV.junk, AV.junk, AV.junk, AV.junk, AV.junk, AV.junk, AV.junk, AV.junk, AV.val (Value.tuple #[])],
          ob :=
            [(0, AO.row [CK.int IntKind.i64, CK.int IntKind.i64, CK.str] []),
              (1,
                AO.row [CK.int IntKind.i64, CK.int IntKind.i64, CK.str]
                  (List.replicate (↑xs.length : Int).toNat (edflt [CK.int IntKind.i64, CK.int IntKind.i64, CK.str])))],
          nx := 1000000, ps := [] })
      False) := by kernel_rfl
def st88 (xs : List (Elem kl)) (i : Int) (ys : List (Elem kl)) : St :=
  ⟨[AV.rsl [CK.int IntKind.i64, CK.int IntKind.i64, CK.str] xs, AV.val (Value.tuple #[]), AV.ows 0, AV.ows 1, .val (.int .i64 i), AV.rsl [CK.int IntKind.i64, CK.int IntKind.i64, CK.str] xs, AV.val (Value.int IntKind.i64 (↑xs.length : Int)), AV.ows 1, AV.junk, AV.junk, AV.junk, AV.junk, AV.junk, AV.junk, AV.junk, AV.junk, AV.junk, AV.junk, AV.junk, AV.junk, AV.junk, AV.junk, AV.val (Value.tuple #[])],
    [(0, AO.row [CK.int IntKind.i64, CK.int IntKind.i64, CK.str] []), (1, .row kl ys)], 1000000, []⟩
theorem b88 (L : Lp) (R : Option Res → Prop) (N : St → Prop) (xs : List (Elem kl)) (i : Int) (ys : List (Elem kl)) : (evP E88 G88 L (lp88 3) (st88 xs i ys) (rk88 L R 3 N)) = (
    br (decide (i < (↑xs.length : Int)))
      (br (decide (0 ≤ i ∧ i < (↑xs.length : Int)))
        (br (decide (0 ≤ i ∧ i < (↑ys.length : Int)))
          (N
            {
              tm :=
                [AV.rsl [CK.int IntKind.i64, CK.int IntKind.i64, CK.str] xs, AV.val (Value.tuple #[]), AV.ows 0, AV.ows 1,
                  AV.val (Value.int IntKind.i64 (IntKind.i64.wrap (i + 1))),
                  AV.rsl [CK.int IntKind.i64, CK.int IntKind.i64, CK.str] xs,
                  AV.val (Value.int IntKind.i64 (↑xs.length : Int)), AV.ows 1, AV.junk, AV.junk, AV.junk, AV.junk, AV.junk,
                  AV.junk, AV.junk, AV.junk, AV.junk, AV.junk, AV.junk, AV.junk, AV.junk, AV.junk,
                  AV.val (Value.tuple #[])],
              ob :=
                [(0, AO.row [CK.int IntKind.i64, CK.int IntKind.i64, CK.str] []),
                  (1,
                    AO.row [CK.int IntKind.i64, CK.int IntKind.i64, CK.str]
                      (ys.set i.toNat (xs.getD i.toNat (edflt [CK.int IntKind.i64, CK.int IntKind.i64, CK.str]))))],
              nx := 1000000, ps := [] })
          False)
        False)
      (R (some { av := AV.ows 0, obs := [AO.row [CK.int IntKind.i64, CK.int IntKind.i64, CK.str] ys], outs := [] }))) := by kernel_rfl
theorem h88 : G1Ok Try.prog 88 g88 := by
  intro args obs k h
  unfold g88 at h
  split at h
  · rename_i k xs
    obtain ⟨hlen, h⟩ := brd h
    refine ⟨_, ctr_fn ok0 hg88 Try.func88 (by kernel_rfl) (by kernel_rfl) (by kernel_rfl) fun C => ?_, h⟩
    rw [e88]
    refine br_yes ⟨by omega, by omega, by omega⟩ ?_
    exact loopUp okf88 hg88 (fun i ys => st88 xs i ys) xs.length (Cp xs) (fun N i ys hi hc next => by
      show evP E88 G88 _ (lp88 3) (st88 xs i ys) (rk88 _ _ 3 _)
      rw [b88, wrap_id (n := (i : Int) + 1) (by omega) (by omega), Int.toNat_natCast]
      have hl := hc.len
      refine br_dec (fun h2 => ?_) (fun h2 => ?_)
      · refine br_yes ⟨by omega, h2⟩ (br_yes ⟨by omega, by omega⟩ ?_)
        exact next (by omega) _ (hc.next (by omega))
      · show _ = _
        rw [hc.done (by omega)]) _ (Cp.zero xs _)
  · exact h.elim
def g42 : G1
  | [.agg [.rsl [.str] a, .rsl [.str] b, .rsl [.int .i64, .int .i64, .str] c]], [], k => br (smD a b c) (k ⟨.agg [.ows 0, .ows 1, .ows 2], [.row ks a, .row ks b, .row kl c], []⟩) False
  | _, _, _ => False
noncomputable def E42 : Env := E0.of Try.f42
noncomputable def G42 : Gk := gk [(87, g87), (88, g88)]
noncomputable def lp42 (n : Nat) : Code := (loopOf n (codeOf Try.f42)).getD .skip
noncomputable def ct42 (L : Lp) (R : Option Res → Prop) (n : Nat) : Kt := contOf E42 G42 L n (codeOf Try.f42) (endK E42 Try.f42.results.toList R)
noncomputable def rk42 (L : Lp) (R : Option Res → Prop) (n : Nat) (N : St → Prop) : Kt := rk (jof E42 (lp42 n)) N (ct42 L R n)
noncomputable def LOOP42 (L : Lp) (R : Option Res → Prop) (n : Nat) (st : St) : Prop := L (lp42 n) st (ct42 L R n)
theorem hg42 : HG Try.prog G42 := (hg_cons h87 (hg_cons h88 hg_nil))
theorem okf42 : Ok Try.prog E42 := ok0.of Try.f42
theorem e42 (L : Lp) (R : Option Res → Prop) (a b : List (Elem ks)) (c : List (Elem kl)) : (bodyP E0 G42 L Try.f42 [.agg [.rsl ks a, .rsl ks b, .rsl kl c]] [] R) = (
    br (decide (a.length ≤ 1048576) && decide (b.length ≤ 1048576))
      (br (decide (c.length ≤ 1048576))
        (R
          (some
            { av := AV.agg [AV.ows 0, AV.ows 1, AV.ows 2],
              obs := [AO.row [CK.str] a, AO.row [CK.str] b, AO.row [CK.int IntKind.i64, CK.int IntKind.i64, CK.str] c],
              outs := [] }))
        False)
      False) := by kernel_rfl
theorem h42 : G1Ok Try.prog 42 g42 := by
  intro args obs k h
  unfold g42 at h
  split at h
  · rename_i k a b c
    unfold smD at h
    obtain ⟨hp, hc, h⟩ := brb2 h
    refine ⟨_, ctr_fn ok0 hg42 Try.func42 (by kernel_rfl) (by kernel_rfl) (by kernel_rfl) fun C => ?_, h⟩
    rw [e42]
    exact br_t hp (br_t hc rfl)
  · exact h.elim
def g126 : G1
  | [.rsl [.str] xs, .rsl [.str] ys], [], k => br (decide (xs.length ≤ 1048576)) (k ⟨.val (.bool (eqR ks xs ys)), [], []⟩) False
  | _, _, _ => False
noncomputable def E126 : Env := E0.of Try.f126
noncomputable def G126 : Gk := gk []
noncomputable def lp126 (n : Nat) : Code := (loopOf n (codeOf Try.f126)).getD .skip
noncomputable def ct126 (L : Lp) (R : Option Res → Prop) (n : Nat) : Kt := contOf E126 G126 L n (codeOf Try.f126) (endK E126 Try.f126.results.toList R)
noncomputable def rk126 (L : Lp) (R : Option Res → Prop) (n : Nat) (N : St → Prop) : Kt := rk (jof E126 (lp126 n)) N (ct126 L R n)
noncomputable def LOOP126 (L : Lp) (R : Option Res → Prop) (n : Nat) (st : St) : Prop := L (lp126 n) st (ct126 L R n)
theorem hg126 : HG Try.prog G126 := hg_nil
theorem okf126 : Ok Try.prog E126 := ok0.of Try.f126
theorem e126 (L : Lp) (R : Option Res → Prop) (xs ys : List (Elem ks)) : (bodyP E0 G126 L Try.f126 [.rsl ks xs, .rsl ks ys] [] R) = (
    br ((↑xs.length : Int) != (↑ys.length : Int)) (R (some { av := AV.val (Value.bool false), obs := [], outs := [] }))
      (LOOP126 L R 4
        {
          tm :=
            [AV.rsl [CK.str] xs, AV.rsl [CK.str] ys, AV.val (Value.tuple #[]), AV.val (Value.tuple #[]),
              AV.val (Value.bool false), AV.val (Value.int IntKind.i64 0), AV.rsl [CK.str] xs,
              AV.val (Value.int IntKind.i64 (↑xs.length : Int)), AV.rsl [CK.str] ys,
              AV.val (Value.int IntKind.i64 (↑ys.length : Int)),
              AV.val (Value.bool ((↑xs.length : Int) != (↑ys.length : Int))), AV.junk, AV.junk, AV.junk, AV.junk, AV.junk,
              AV.junk, AV.junk, AV.junk, AV.junk, AV.junk, AV.junk, AV.junk, AV.junk, AV.junk, AV.junk],
          ob := [], nx := 1000000, ps := [] })) := by kernel_rfl
def st126 (xs ys : List (Elem ks)) (i : Int) : St :=
  ⟨[AV.rsl [CK.str] xs, AV.rsl [CK.str] ys, AV.val (Value.tuple #[]), AV.val (Value.tuple #[]), AV.val (Value.bool false), .val (.int .i64 i), AV.rsl [CK.str] xs, AV.val (Value.int IntKind.i64 (↑xs.length : Int)), AV.rsl [CK.str] ys, AV.val (Value.int IntKind.i64 (↑ys.length : Int)), AV.val (Value.bool ((↑xs.length : Int) != (↑ys.length : Int))), AV.junk, AV.junk, AV.junk, AV.junk, AV.junk, AV.junk, AV.junk, AV.junk, AV.junk, AV.junk, AV.junk, AV.junk, AV.junk, AV.junk, AV.junk],
    [], 1000000, []⟩
theorem b126 (L : Lp) (R : Option Res → Prop) (N : St → Prop) (xs ys : List (Elem ks)) (i : Int) : (evP E126 G126 L (lp126 4) (st126 xs ys i) (rk126 L R 4 N)) = (
    br (decide (i < (↑xs.length : Int)))
      (br (decide (0 ≤ i ∧ i < (↑xs.length : Int)))
        (br (decide (0 ≤ i ∧ i < (↑ys.length : Int)))
          (br (!strEq (xs.getD i.toNat (edflt [CK.str])).fst (ys.getD i.toNat (edflt [CK.str])).fst)
            (R (some { av := AV.val (Value.bool false), obs := [], outs := [] }))
            (N
              {
                tm :=
                  [AV.rsl [CK.str] xs, AV.rsl [CK.str] ys, AV.val (Value.tuple #[]), AV.val (Value.tuple #[]),
                    AV.val (Value.bool false), AV.val (Value.int IntKind.i64 (IntKind.i64.wrap (i + 1))),
                    AV.rsl [CK.str] xs, AV.val (Value.int IntKind.i64 (↑xs.length : Int)), AV.rsl [CK.str] ys,
                    AV.val (Value.int IntKind.i64 (↑ys.length : Int)),
                    AV.val (Value.bool ((↑xs.length : Int) != (↑ys.length : Int))), AV.junk, AV.junk, AV.junk, AV.junk,
                    AV.junk, AV.junk, AV.junk, AV.junk, AV.junk, AV.junk, AV.junk, AV.junk, AV.junk, AV.junk, AV.junk],
                ob := [], nx := 1000000, ps := [] }))
          False)
        False)
      (R (some { av := AV.val (Value.bool true), obs := [], outs := [] }))) := by kernel_rfl
theorem h126 : G1Ok Try.prog 126 g126 := by
  intro args obs k h
  unfold g126 at h
  split at h
  · rename_i k xs ys
    obtain ⟨hlen, h⟩ := brd h
    refine ⟨_, ctr_fn ok0 hg126 Try.func126 (by kernel_rfl) (by kernel_rfl) (by kernel_rfl) fun C => ?_, h⟩
    rw [e126]
    refine br_intro (fun hb => ?_) (fun hb => ?_)
    · show _ = _
      rw [show eqR ks xs ys = false from eqL_len (fun e => by rw [e] at hb; simp at hb)]
    have hl : xs.length = ys.length := by simp at hb; omega
    exact loopAll okf126 hg126 (fun i => st126 xs ys i) xs.length (fun i => elemEq ks (xs.getD i (edflt ks)) (ys.getD i (edflt ks))) (by omega) (fun N i hi hw next fails done => by
      show evP E126 G126 _ (lp126 4) (st126 xs ys i) (rk126 _ _ 4 _)
      rw [b126, hw, Int.toNat_natCast]
      refine br_dec (fun h2 => br_yes ⟨by omega, h2⟩ (br_yes ⟨by omega, by omega⟩ (br_not (fun h3 => ?_) (fun h3 => ?_)))) (fun h2 => ?_)
      · show _ = _
        rw [show eqR ks xs ys = false from (eqL_of hl).trans (fails (by omega) h3)]
      · exact next (by omega) h3
      · show _ = _
        rw [show eqR ks xs ys = true from (eqL_of hl).trans (done (by omega))])
  · exact h.elim
def g78 : G1
  | [.agg [.rsl [.str] a, .rsl [.str] b], .agg [.rsl [.str] a', .rsl [.str] b']], [], k => br (decide (a.length ≤ 1048576) && decide (b.length ≤ 1048576)) (k ⟨.val (.bool (eqR ks a a' && eqR ks b b')), [], []⟩) False
  | _, _, _ => False
noncomputable def E78 : Env := E0.of Try.f78
noncomputable def G78 : Gk := gk [(126, g126)]
noncomputable def lp78 (n : Nat) : Code := (loopOf n (codeOf Try.f78)).getD .skip
noncomputable def ct78 (L : Lp) (R : Option Res → Prop) (n : Nat) : Kt := contOf E78 G78 L n (codeOf Try.f78) (endK E78 Try.f78.results.toList R)
noncomputable def rk78 (L : Lp) (R : Option Res → Prop) (n : Nat) (N : St → Prop) : Kt := rk (jof E78 (lp78 n)) N (ct78 L R n)
noncomputable def LOOP78 (L : Lp) (R : Option Res → Prop) (n : Nat) (st : St) : Prop := L (lp78 n) st (ct78 L R n)
theorem hg78 : HG Try.prog G78 := (hg_cons h126 hg_nil)
theorem okf78 : Ok Try.prog E78 := ok0.of Try.f78
theorem e78 (L : Lp) (R : Option Res → Prop) (a b a' b' : List (Elem ks)) : (bodyP E0 G78 L Try.f78 [.agg [.rsl ks a, .rsl ks b], .agg [.rsl ks a', .rsl ks b']] [] R) = (
    LOOP78 L R 2
      {
        tm :=
          [AV.agg [AV.rsl [CK.str] a, AV.rsl [CK.str] b], AV.agg [AV.rsl [CK.str] a', AV.rsl [CK.str] b'], AV.ptr 0 0,
            AV.ptr 1 0, AV.val (Value.bool false), AV.val (Value.int IntKind.i64 0), AV.junk, AV.junk, AV.junk, AV.junk,
            AV.junk, AV.junk, AV.junk, AV.junk, AV.junk, AV.junk, AV.junk, AV.junk],
        ob := [(0, AO.box [AV.rsl [CK.str] a, AV.rsl [CK.str] b]), (1, AO.box [AV.rsl [CK.str] a', AV.rsl [CK.str] b'])],
        nx := 1000000, ps := [] }) := by kernel_rfl
def st78 (a b a' b' : List (Elem ks)) (i : Int) : St :=
  ⟨[AV.agg [AV.rsl [CK.str] a, AV.rsl [CK.str] b], AV.agg [AV.rsl [CK.str] a', AV.rsl [CK.str] b'], AV.ptr 0 0, AV.ptr 1 0, AV.val (Value.bool false), .val (.int .i64 i), AV.junk, AV.junk, AV.junk, AV.junk, AV.junk, AV.junk, AV.junk, AV.junk, AV.junk, AV.junk, AV.junk, AV.junk],
    [(0, AO.box [AV.rsl [CK.str] a, AV.rsl [CK.str] b]), (1, AO.box [AV.rsl [CK.str] a', AV.rsl [CK.str] b'])], 1000000, []⟩
theorem b78_0 (L : Lp) (R : Option Res → Prop) (N : St → Prop) (a b a' b' : List (Elem ks)) : (evP E78 G78 L (lp78 2) (st78 a b a' b' 0) (rk78 L R 2 N)) = (
    br (decide (a.length ≤ 1048576))
      (br (!eqR ks a a') (R (some { av := AV.val (Value.bool false), obs := [], outs := [] }))
        (N
          {
            tm :=
              [AV.agg [AV.rsl [CK.str] a, AV.rsl [CK.str] b], AV.agg [AV.rsl [CK.str] a', AV.rsl [CK.str] b'], AV.ptr 0 0,
                AV.ptr 1 0, AV.val (Value.bool false), AV.val (Value.int IntKind.i64 1), AV.junk, AV.junk, AV.junk, AV.junk,
                AV.junk, AV.junk, AV.junk, AV.junk, AV.junk, AV.junk, AV.junk, AV.junk],
            ob :=
              [(0, AO.box [AV.rsl [CK.str] a, AV.rsl [CK.str] b]), (1, AO.box [AV.rsl [CK.str] a', AV.rsl [CK.str] b'])],
            nx := 1000000, ps := [] }))
      False) := by kernel_rfl
theorem b78_1 (L : Lp) (R : Option Res → Prop) (N : St → Prop) (a b a' b' : List (Elem ks)) : (evP E78 G78 L (lp78 2) (st78 a b a' b' 1) (rk78 L R 2 N)) = (
    br (decide (b.length ≤ 1048576))
      (br (!eqR ks b b') (R (some { av := AV.val (Value.bool false), obs := [], outs := [] }))
        (N
          {
            tm :=
              [AV.agg [AV.rsl [CK.str] a, AV.rsl [CK.str] b], AV.agg [AV.rsl [CK.str] a', AV.rsl [CK.str] b'], AV.ptr 0 0,
                AV.ptr 1 0, AV.val (Value.bool false), AV.val (Value.int IntKind.i64 2), AV.junk, AV.junk, AV.junk, AV.junk,
                AV.junk, AV.junk, AV.junk, AV.junk, AV.junk, AV.junk, AV.junk, AV.junk],
            ob :=
              [(0, AO.box [AV.rsl [CK.str] a, AV.rsl [CK.str] b]), (1, AO.box [AV.rsl [CK.str] a', AV.rsl [CK.str] b'])],
            nx := 1000000, ps := [] }))
      False) := by kernel_rfl
theorem b78_2 (L : Lp) (R : Option Res → Prop) (N : St → Prop) (a b a' b' : List (Elem ks)) : (evP E78 G78 L (lp78 2) (st78 a b a' b' 2) (rk78 L R 2 N)) = (
    R (some { av := AV.val (Value.bool true), obs := [], outs := [] })) := by kernel_rfl
theorem h78 : G1Ok Try.prog 78 g78 := by
  intro args obs k h
  unfold g78 at h
  split at h
  · rename_i k a b a' b'
    obtain ⟨ha, hb, h⟩ := brb2 h
    refine ⟨_, ctr_fn ok0 hg78 Try.func78 (by kernel_rfl) (by kernel_rfl) (by kernel_rfl) fun C => ?_, h⟩
    rw [e78]
    refine loopUp okf78 hg78 (α := Unit) (fun i _ => st78 a b a' b' i) 2 (fun i _ => (0 < i → eqR ks a a' = true) ∧ (1 < i → eqR ks b b' = true)) (fun N i _ hi ⟨h0, h1⟩ next => ?_) () ⟨by omega, by omega⟩
    have cs : i = 0 ∨ i = 1 ∨ i = 2 := by omega
    rcases cs with rfl | rfl | rfl
    · show evP E78 G78 _ (lp78 2) (st78 a b a' b' 0) (rk78 _ _ 2 _)
      rw [b78_0]
      refine br_t ha (br_not (fun h => ?_) (fun h => ?_))
      · show _ = _
        rw [h]
        rfl
      · exact next (by omega) () ⟨fun _ => h, by omega⟩
    · show evP E78 G78 _ (lp78 2) (st78 a b a' b' 1) (rk78 _ _ 2 _)
      rw [b78_1]
      refine br_t hb (br_not (fun h => ?_) (fun h => ?_))
      · show _ = _
        rw [h, Bool.and_false]
      · exact next (by omega) () ⟨fun _ => h0 (by omega), fun _ => h⟩
    · show evP E78 G78 _ (lp78 2) (st78 a b a' b' 2) (rk78 _ _ 2 _)
      rw [b78_2]
      show _ = _
      rw [h0 (by omega), h1 (by omega)]
      rfl
  · exact h.elim
def g127 : G1
  | [.agg [.val (.int .i64 a0), .val (.int .i64 a1), .val (.string a2)], .agg [.val (.int .i64 b0), .val (.int .i64 b1), .val (.string b2)]], [], k => k ⟨.val (.bool (elemEq kl (a0, a1, a2, ()) (b0, b1, b2, ()))), [], []⟩
  | _, _, _ => False
noncomputable def E127 : Env := E0.of Try.f127
noncomputable def G127 : Gk := gk []
noncomputable def lp127 (n : Nat) : Code := (loopOf n (codeOf Try.f127)).getD .skip
noncomputable def ct127 (L : Lp) (R : Option Res → Prop) (n : Nat) : Kt := contOf E127 G127 L n (codeOf Try.f127) (endK E127 Try.f127.results.toList R)
noncomputable def rk127 (L : Lp) (R : Option Res → Prop) (n : Nat) (N : St → Prop) : Kt := rk (jof E127 (lp127 n)) N (ct127 L R n)
noncomputable def LOOP127 (L : Lp) (R : Option Res → Prop) (n : Nat) (st : St) : Prop := L (lp127 n) st (ct127 L R n)
theorem hg127 : HG Try.prog G127 := hg_nil
theorem okf127 : Ok Try.prog E127 := ok0.of Try.f127
theorem e127 (L : Lp) (R : Option Res → Prop) (a0 : Int) (a1 : Int) (a2 : ByteArray) (b0 : Int) (b1 : Int) (b2 : ByteArray) : (bodyP E0 G127 L Try.f127 [.agg [.val (.int .i64 a0), .val (.int .i64 a1), .val (.string a2)], .agg [.val (.int .i64 b0), .val (.int .i64 b1), .val (.string b2)]] [] R) = (
    br (a0 != b0) (R (some { av := AV.val (Value.bool false), obs := [], outs := [] }))
      (br (a1 != b1) (R (some { av := AV.val (Value.bool false), obs := [], outs := [] }))
        (br (!strEq a2 b2) (R (some { av := AV.val (Value.bool false), obs := [], outs := [] }))
          (R (some { av := AV.val (Value.bool true), obs := [], outs := [] }))))) := by kernel_rfl
theorem h127 : G1Ok Try.prog 127 g127 := by
  intro args obs k h
  unfold g127 at h
  split at h
  · rename_i k a0 a1 a2 b0 b1 b2
    refine ⟨_, ctr_fn ok0 hg127 Try.func127 (by kernel_rfl) (by kernel_rfl) (by kernel_rfl) fun C => ?_, h⟩
    rw [e127]
    repeat' (first | refine br_intro (fun h => ?_) (fun h => ?_))
    all_goals simp_all [elemEq, ckEq]
    all_goals grind
  · exact h.elim
def g79 : G1
  | [.rsl [.int .i64, .int .i64, .str] xs, .rsl [.int .i64, .int .i64, .str] ys], [], k => br (decide (xs.length ≤ 1048576)) (k ⟨.val (.bool (eqR kl xs ys)), [], []⟩) False
  | _, _, _ => False
noncomputable def E79 : Env := E0.of Try.f79
noncomputable def G79 : Gk := gk [(127, g127)]
noncomputable def lp79 (n : Nat) : Code := (loopOf n (codeOf Try.f79)).getD .skip
noncomputable def ct79 (L : Lp) (R : Option Res → Prop) (n : Nat) : Kt := contOf E79 G79 L n (codeOf Try.f79) (endK E79 Try.f79.results.toList R)
noncomputable def rk79 (L : Lp) (R : Option Res → Prop) (n : Nat) (N : St → Prop) : Kt := rk (jof E79 (lp79 n)) N (ct79 L R n)
noncomputable def LOOP79 (L : Lp) (R : Option Res → Prop) (n : Nat) (st : St) : Prop := L (lp79 n) st (ct79 L R n)
theorem hg79 : HG Try.prog G79 := (hg_cons h127 hg_nil)
theorem okf79 : Ok Try.prog E79 := ok0.of Try.f79
theorem e79 (L : Lp) (R : Option Res → Prop) (xs ys : List (Elem kl)) : (bodyP E0 G79 L Try.f79 [.rsl kl xs, .rsl kl ys] [] R) = (
    br ((↑xs.length : Int) != (↑ys.length : Int)) (R (some { av := AV.val (Value.bool false), obs := [], outs := [] }))
      (LOOP79 L R 4
        {
          tm :=
            [AV.rsl [CK.int IntKind.i64, CK.int IntKind.i64, CK.str] xs,
              AV.rsl [CK.int IntKind.i64, CK.int IntKind.i64, CK.str] ys, AV.val (Value.tuple #[]),
              AV.val (Value.tuple #[]), AV.val (Value.bool false), AV.val (Value.int IntKind.i64 0),
              AV.rsl [CK.int IntKind.i64, CK.int IntKind.i64, CK.str] xs, AV.val (Value.int IntKind.i64 (↑xs.length : Int)),
              AV.rsl [CK.int IntKind.i64, CK.int IntKind.i64, CK.str] ys, AV.val (Value.int IntKind.i64 (↑ys.length : Int)),
              AV.val (Value.bool ((↑xs.length : Int) != (↑ys.length : Int))), AV.junk, AV.junk, AV.junk, AV.junk, AV.junk,
              AV.junk, AV.junk, AV.junk, AV.junk, AV.junk, AV.junk, AV.junk, AV.junk, AV.junk, AV.junk, AV.junk],
          ob := [], nx := 1000000, ps := [] })) := by kernel_rfl
def st79 (xs ys : List (Elem kl)) (i : Int) : St :=
  ⟨[AV.rsl [CK.int IntKind.i64, CK.int IntKind.i64, CK.str] xs, AV.rsl [CK.int IntKind.i64, CK.int IntKind.i64, CK.str] ys, AV.val (Value.tuple #[]), AV.val (Value.tuple #[]), AV.val (Value.bool false), .val (.int .i64 i), AV.rsl [CK.int IntKind.i64, CK.int IntKind.i64, CK.str] xs, AV.val (Value.int IntKind.i64 (↑xs.length : Int)), AV.rsl [CK.int IntKind.i64, CK.int IntKind.i64, CK.str] ys, AV.val (Value.int IntKind.i64 (↑ys.length : Int)), AV.val (Value.bool ((↑xs.length : Int) != (↑ys.length : Int))), AV.junk, AV.junk, AV.junk, AV.junk, AV.junk, AV.junk, AV.junk, AV.junk, AV.junk, AV.junk, AV.junk, AV.junk, AV.junk, AV.junk, AV.junk, AV.junk],
    [], 1000000, []⟩
theorem b79 (L : Lp) (R : Option Res → Prop) (N : St → Prop) (xs ys : List (Elem kl)) (i : Int) : (evP E79 G79 L (lp79 4) (st79 xs ys i) (rk79 L R 4 N)) = (
    br (decide (i < (↑xs.length : Int)))
      (br (decide (0 ≤ i ∧ i < (↑xs.length : Int)))
        (br (decide (0 ≤ i ∧ i < (↑ys.length : Int)))
          (br
            (!elemEq kl (xs.getD i.toNat (edflt [CK.int IntKind.i64, CK.int IntKind.i64, CK.str]))
                (ys.getD i.toNat (edflt [CK.int IntKind.i64, CK.int IntKind.i64, CK.str])))
            (R (some { av := AV.val (Value.bool false), obs := [], outs := [] }))
            (N
              {
                tm :=
                  [AV.rsl [CK.int IntKind.i64, CK.int IntKind.i64, CK.str] xs,
                    AV.rsl [CK.int IntKind.i64, CK.int IntKind.i64, CK.str] ys, AV.val (Value.tuple #[]),
                    AV.val (Value.tuple #[]), AV.val (Value.bool false),
                    AV.val (Value.int IntKind.i64 (IntKind.i64.wrap (i + 1))),
                    AV.rsl [CK.int IntKind.i64, CK.int IntKind.i64, CK.str] xs,
                    AV.val (Value.int IntKind.i64 (↑xs.length : Int)),
                    AV.rsl [CK.int IntKind.i64, CK.int IntKind.i64, CK.str] ys,
                    AV.val (Value.int IntKind.i64 (↑ys.length : Int)),
                    AV.val (Value.bool ((↑xs.length : Int) != (↑ys.length : Int))), AV.junk, AV.junk, AV.junk, AV.junk,
                    AV.junk, AV.junk, AV.junk, AV.junk, AV.junk, AV.junk, AV.junk, AV.junk, AV.junk, AV.junk, AV.junk,
                    AV.junk],
                ob := [], nx := 1000000, ps := [] }))
          False)
        False)
      (R (some { av := AV.val (Value.bool true), obs := [], outs := [] }))) := by kernel_rfl
theorem h79 : G1Ok Try.prog 79 g79 := by
  intro args obs k h
  unfold g79 at h
  split at h
  · rename_i k xs ys
    obtain ⟨hlen, h⟩ := brd h
    refine ⟨_, ctr_fn ok0 hg79 Try.func79 (by kernel_rfl) (by kernel_rfl) (by kernel_rfl) fun C => ?_, h⟩
    rw [e79]
    refine br_intro (fun hb => ?_) (fun hb => ?_)
    · show _ = _
      rw [show eqR kl xs ys = false from eqL_len (fun e => by rw [e] at hb; simp at hb)]
    have hl : xs.length = ys.length := by simp at hb; omega
    exact loopAll okf79 hg79 (fun i => st79 xs ys i) xs.length (fun i => elemEq kl (xs.getD i (edflt kl)) (ys.getD i (edflt kl))) (by omega) (fun N i hi hw next fails done => by
      show evP E79 G79 _ (lp79 4) (st79 xs ys i) (rk79 _ _ 4 _)
      rw [b79, hw, Int.toNat_natCast]
      refine br_dec (fun h2 => br_yes ⟨by omega, h2⟩ (br_yes ⟨by omega, by omega⟩ (br_not (fun h3 => ?_) (fun h3 => ?_)))) (fun h2 => ?_)
      · show _ = _
        rw [show eqR kl xs ys = false from (eqL_of hl).trans (fails (by omega) h3)]
      · exact next (by omega) h3
      · show _ = _
        rw [show eqR kl xs ys = true from (eqL_of hl).trans (done (by omega))])
  · exact h.elim
def g37 : G1
  | [.agg [.rsl [.str] a, .rsl [.str] b, .rsl [.int .i64, .int .i64, .str] c], .agg [.rsl [.str] a', .rsl [.str] b', .rsl [.int .i64, .int .i64, .str] c']], [], k =>
    br (smD a b c) (k ⟨.val (.bool (eqD a b c a' b' c')), [], []⟩) False
  | _, _, _ => False
noncomputable def E37 : Env := E0.of Try.f37
noncomputable def G37 : Gk := gk [(78, g78), (79, g79)]
noncomputable def lp37 (n : Nat) : Code := (loopOf n (codeOf Try.f37)).getD .skip
noncomputable def ct37 (L : Lp) (R : Option Res → Prop) (n : Nat) : Kt := contOf E37 G37 L n (codeOf Try.f37) (endK E37 Try.f37.results.toList R)
noncomputable def rk37 (L : Lp) (R : Option Res → Prop) (n : Nat) (N : St → Prop) : Kt := rk (jof E37 (lp37 n)) N (ct37 L R n)
noncomputable def LOOP37 (L : Lp) (R : Option Res → Prop) (n : Nat) (st : St) : Prop := L (lp37 n) st (ct37 L R n)
theorem hg37 : HG Try.prog G37 := (hg_cons h78 (hg_cons h79 hg_nil))
theorem okf37 : Ok Try.prog E37 := ok0.of Try.f37
theorem e37 (L : Lp) (R : Option Res → Prop) (a b a' b' : List (Elem ks)) (c c' : List (Elem kl)) : (bodyP E0 G37 L Try.f37 [.agg [.rsl ks a, .rsl ks b, .rsl kl c], .agg [.rsl ks a', .rsl ks b', .rsl kl c']] [] R) = (
    br (decide (a.length ≤ 1048576) && decide (b.length ≤ 1048576))
      (br (!(eqR ks a a' && eqR ks b b')) (R (some { av := AV.val (Value.bool false), obs := [], outs := [] }))
        (br (decide (c.length ≤ 1048576))
          (br (!eqR kl c c') (R (some { av := AV.val (Value.bool false), obs := [], outs := [] }))
            (R (some { av := AV.val (Value.bool true), obs := [], outs := [] })))
          False))
      False) := by kernel_rfl
theorem h37 : G1Ok Try.prog 37 g37 := by
  intro args obs k h
  unfold g37 at h
  split at h
  · rename_i k a b c a' b' c'
    unfold smD at h
    obtain ⟨hp, hc, h⟩ := brb2 h
    refine ⟨_, ctr_fn ok0 hg37 Try.func37 (by kernel_rfl) (by kernel_rfl) (by kernel_rfl) fun C => ?_, h⟩
    rw [e37]
    refine br_t hp (br_not (fun h => ?_) (fun h => br_t hc (br_not (fun h2 => ?_) (fun h2 => ?_))))
    · show _ = _
      unfold eqD
      rw [h]
      rfl
    · show _ = _
      unfold eqD
      rw [h2, Bool.and_false]
    · show _ = _
      unfold eqD
      rw [h, h2]
      rfl
  · exact h.elim
theorem eqD_self (a b : List (Elem ks)) (c : List (Elem kl)) : eqD a b c a b c = true := by
  unfold eqD
  rw [eqR_self, eqR_self, eqR_self]
  rfl
def dOk (a b : List (Elem ks)) (c : List (Elem kl)) : Prop := (a.length ≤ maxLen ∧ ∀ e ∈ a, elemOk ks e) ∧ (b.length ≤ maxLen ∧ ∀ e ∈ b, elemOk ks e) ∧ (c.length ≤ maxLen ∧ ∀ e ∈ c, elemOk kl e)
theorem inTs_of {a : List (Elem ks)} (h : a.length ≤ maxLen ∧ ∀ e ∈ a, elemOk ks e) : inTs a = true := by
  unfold inTs
  rw [Bool.and_eq_true, decide_eq_true_eq, List.all_eq_true]
  exact ⟨h.1, fun e he => decide_eq_true (h.2 e he).1⟩
theorem inLts_of {a : List (Elem kl)} (h : a.length ≤ maxLen ∧ ∀ e ∈ a, elemOk kl e) : inLts a = true := by
  unfold inLts
  rw [Bool.and_eq_true, decide_eq_true_eq, List.all_eq_true]
  exact ⟨h.1, fun e he => decide_eq_true (h.2 e he).2.2.1⟩
theorem inD_of {a b : List (Elem ks)} {c : List (Elem kl)} (h : dOk a b c) : inD a b c = true := by
  unfold inD
  rw [inTs_of h.1, inTs_of h.2.1, inLts_of h.2.2]
  rfl
theorem smD_of {a b : List (Elem ks)} {c : List (Elem kl)} {l : Int} (hl : l ≤ 1048576) (h : ¬ szR l (szD a b c) < 0) : smD a b c = true := by
  have := szR_ge0 h
  unfold szD szTs szLs at this
  unfold smD
  simp only [Bool.and_eq_true, decide_eq_true_eq]
  omega
end Go.Proofs.Ytjhjhkphcemcmaa.Ev
