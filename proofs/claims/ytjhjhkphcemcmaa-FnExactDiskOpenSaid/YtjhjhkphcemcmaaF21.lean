/- The law of DiskOpen. -/
import Derived.Test.YtjhjhkphcemcmaaF20
namespace Go.Proofs.Ytjhjhkphcemcmaa.Ev
open Go
set_option linter.unusedVariables false
set_option linter.unusedSimpArgs false
set_option maxRecDepth 100000
def mkA (n : Int) (a : List (Elem ks)) : List (Elem ks) := mkS mkT 1 n a.length
def nxA (n : Int) (a : List (Elem ks)) : Int := n + ((1 * a.length : Nat) : Int)
def g80 : G1
  | [.agg [.ows 0, .ows 1], .val (.int .i64 n)], [.row [.str] a, .row [.str] b], k => br (inM n a.length && inM (nxA n a) b.length) (k ⟨.val (.int .i64 (nxA (nxA n a) b)), [.row ks (mkA n a), .row ks (mkA (nxA n a) b)], [some 0, some 1]⟩) False
  | _, _, _ => False
def g82 : G1
  | [.agg [.rsl [.str] a, .rsl [.str] b], .val (.int .i64 n)], [], k => br (inM n a.length && inM (nxA n a) b.length) (k ⟨.val (.int .i64 (hdR (hdB ks mkT 1 n a && hdB ks mkT 1 (nxA n a) b) (nxA (nxA n a) b))), [], []⟩) False
  | _, _, _ => False
def mkC (n : Int) (c : List (Elem kl)) : List (Elem kl) := mkS mkDl 3 n c.length
def nxC (n : Int) (c : List (Elem kl)) : Int := n + ((3 * c.length : Nat) : Int)
def inMD (n : Int) (a b : List (Elem ks)) (c : List (Elem kl)) : Bool := inM n a.length && inM (nxA n a) b.length && inM (nxA (nxA n a) b) c.length
def g38 : G1
  | [.agg [.ows 0, .ows 1, .ows 2], .val (.int .i64 n)], [.row [.str] a, .row [.str] b, .row [.int .i64, .int .i64, .str] c], k => br (inMD n a b c) (k ⟨.val (.int .i64 (nxC (nxA (nxA n a) b) c)), [.row ks (mkA n a), .row ks (mkA (nxA n a) b), .row kl (mkC (nxA (nxA n a) b) c)], [some 0, some 1, some 2]⟩) False
  | _, _, _ => False
def hdD (n : Int) (a b : List (Elem ks)) (c : List (Elem kl)) : Bool := hdB ks mkT 1 n a && hdB ks mkT 1 (nxA n a) b && hdB kl mkDl 3 (nxA (nxA n a) b) c
def g39 : G1
  | [.agg [.rsl [.str] a, .rsl [.str] b, .rsl [.int .i64, .int .i64, .str] c], .val (.int .i64 n)], [], k => br (inMD n a b c) (k ⟨.val (.int .i64 (hdR (hdD n a b c) (nxC (nxA (nxA n a) b) c))), [], []⟩) False
  | _, _, _ => False
theorem inM_ge {n : Int} {l : Nat} (h : inM n l = true) : 0 ≤ n := (of_decide_eq_true h).1
theorem hdR_lt {b : Bool} {n : Int} (h : 0 ≤ n) : hdR b n < 0 ↔ b = false := by
  cases b
  · simp [hdR]
  · simp [hdR]
    exact h
noncomputable def E80 : Env := E1.of Try.f80
noncomputable def G80 : Gk := gk [(128, g128)]
noncomputable def lp80 (n : Nat) : Code := (loopOf n (codeOf Try.f80)).getD .skip
noncomputable def ct80 (L : Lp) (R : Option Res → Prop) (n : Nat) : Kt := contOf E80 G80 L n (codeOf Try.f80) (endK E80 Try.f80.results.toList R)
noncomputable def rk80 (L : Lp) (R : Option Res → Prop) (n : Nat) (N : St → Prop) : Kt := rk (jof E80 (lp80 n)) N (ct80 L R n)
noncomputable def LOOP80 (L : Lp) (R : Option Res → Prop) (n : Nat) (st : St) : Prop := L (lp80 n) st (ct80 L R n)
theorem hg80 : HG Try.prog G80 := (hg_cons h128 hg_nil)
theorem okf80 : Ok Try.prog E80 := ok1.of Try.f80
theorem e80 (L : Lp) (R : Option Res → Prop) (a b : List (Elem ks)) (n : Int) : (bodyP E1 G80 L Try.f80 [.agg [.ows 0, .ows 1], .val (.int .i64 n)] [.row ks a, .row ks b] R) = (
    LOOP80 L R 2
      {
        tm :=
          [AV.agg [AV.ows 0, AV.ows 1], AV.val (Value.int IntKind.i64 n), AV.ptr 2 0, AV.val (Value.tuple #[]),
            AV.val (Value.int IntKind.i64 0), AV.val (Value.int IntKind.i64 0), AV.junk, AV.junk, AV.junk, AV.junk, AV.junk,
            AV.junk, AV.junk, AV.junk, AV.junk, AV.val (Value.tuple #[])],
        ob := [(0, AO.row [CK.str] a), (1, AO.row [CK.str] b), (2, AO.box [AV.ows 0, AV.ows 1])], nx := 1000000,
        ps := [some 0, some 1] }) := by kernel_rfl
def st80 (a b : List (Elem ks)) (n i : Int) : St :=
  ⟨[AV.agg [AV.ows 0, AV.ows 1], .val (.int .i64 n), AV.ptr 2 0, AV.val (Value.tuple #[]), AV.val (Value.int IntKind.i64 0), .val (.int .i64 i), AV.junk, AV.junk, AV.junk, AV.junk, AV.junk, AV.junk, AV.junk, AV.junk, AV.junk, AV.val (Value.tuple #[])],
    [(0, AO.row [CK.str] a), (1, AO.row [CK.str] b), (2, AO.box [AV.ows 0, AV.ows 1])], 1000000, [some 0, some 1]⟩
theorem b80_0 (L : Lp) (R : Option Res → Prop) (N : St → Prop) (a b : List (Elem ks)) (n : Int) : (evP E80 G80 L (lp80 2) (st80 a b n 0) (rk80 L R 2 N)) = (
    br (inM n a.length)
      (N
        {
          tm :=
            [AV.agg [AV.ows 0, AV.ows 1], AV.val (Value.int IntKind.i64 (n + (↑(1 * a.length) : Int))), AV.ptr 2 0,
              AV.val (Value.tuple #[]), AV.val (Value.int IntKind.i64 0), AV.val (Value.int IntKind.i64 1), AV.junk,
              AV.junk, AV.junk, AV.junk, AV.junk, AV.junk, AV.junk, AV.junk, AV.junk, AV.val (Value.tuple #[])],
          ob := [(0, AO.row [CK.str] (mkS mkT 1 n a.length)), (1, AO.row [CK.str] b), (2, AO.box [AV.ows 0, AV.ows 1])],
          nx := 1000000, ps := [some 0, some 1] })
      False) := by kernel_rfl
theorem b80_1 (L : Lp) (R : Option Res → Prop) (N : St → Prop) (a b : List (Elem ks)) (n : Int) : (evP E80 G80 L (lp80 2) (st80 a b n 1) (rk80 L R 2 N)) = (
    br (inM n b.length)
      (N
        {
          tm :=
            [AV.agg [AV.ows 0, AV.ows 1], AV.val (Value.int IntKind.i64 (n + (↑(1 * b.length) : Int))), AV.ptr 2 0,
              AV.val (Value.tuple #[]), AV.val (Value.int IntKind.i64 0), AV.val (Value.int IntKind.i64 2), AV.junk,
              AV.junk, AV.junk, AV.junk, AV.junk, AV.junk, AV.junk, AV.junk, AV.junk, AV.val (Value.tuple #[])],
          ob := [(0, AO.row [CK.str] a), (1, AO.row [CK.str] (mkS mkT 1 n b.length)), (2, AO.box [AV.ows 0, AV.ows 1])],
          nx := 1000000, ps := [some 0, some 1] })
      False) := by kernel_rfl
theorem b80_2 (L : Lp) (R : Option Res → Prop) (N : St → Prop) (a b : List (Elem ks)) (n : Int) : (evP E80 G80 L (lp80 2) (st80 a b n 2) (rk80 L R 2 N)) = (
    R
      (some
        { av := AV.val (Value.int IntKind.i64 n), obs := [AO.row [CK.str] a, AO.row [CK.str] b], outs := [some 0, some 1] })) := by kernel_rfl
theorem h80 : G1Ok Try.prog 80 g80 := by
  intro args obs k h
  unfold g80 at h
  split at h
  · rename_i k n a b
    obtain ⟨ha, hb, h⟩ := brb2 h
    refine ⟨_, ctr_fn ok1 hg80 Try.func80 (by kernel_rfl) (by kernel_rfl) (by kernel_rfl) fun C => ?_, h⟩
    rw [e80]
    refine loopSeq okf80 hg80 (fun | 0 => st80 a b n 0 | 1 => st80 (mkA n a) b (nxA n a) 1 | _ => st80 (mkA n a) (mkA (nxA n a) b) (nxA (nxA n a) b) 2) 2 (fun N i hi next => ?_) (fun N => ?_)
    · have cs : i = 0 ∨ i = 1 := by omega
      rcases cs with rfl | rfl
      · show evP E80 G80 _ (lp80 2) (st80 a b n 0) (rk80 _ _ 2 _)
        rw [b80_0]
        exact br_t ha next
      · show evP E80 G80 _ (lp80 2) (st80 (mkA n a) b (nxA n a) 1) (rk80 _ _ 2 _)
        rw [b80_1]
        exact br_t hb next
    · show evP E80 G80 _ (lp80 2) (st80 (mkA n a) (mkA (nxA n a) b) (nxA (nxA n a) b) 2) (rk80 _ _ 2 _)
      rw [b80_2]
  · exact h.elim
noncomputable def E82 : Env := E1.of Try.f82
noncomputable def G82 : Gk := gk [(130, g130)]
noncomputable def lp82 (n : Nat) : Code := (loopOf n (codeOf Try.f82)).getD .skip
noncomputable def ct82 (L : Lp) (R : Option Res → Prop) (n : Nat) : Kt := contOf E82 G82 L n (codeOf Try.f82) (endK E82 Try.f82.results.toList R)
noncomputable def rk82 (L : Lp) (R : Option Res → Prop) (n : Nat) (N : St → Prop) : Kt := rk (jof E82 (lp82 n)) N (ct82 L R n)
noncomputable def LOOP82 (L : Lp) (R : Option Res → Prop) (n : Nat) (st : St) : Prop := L (lp82 n) st (ct82 L R n)
theorem hg82 : HG Try.prog G82 := (hg_cons h130 hg_nil)
theorem okf82 : Ok Try.prog E82 := ok1.of Try.f82
theorem e82 (L : Lp) (R : Option Res → Prop) (a b : List (Elem ks)) (n : Int) : (bodyP E1 G82 L Try.f82 [.agg [.rsl ks a, .rsl ks b], .val (.int .i64 n)] [] R) = (
    LOOP82 L R 2
      {
        tm :=
          [AV.agg [AV.rsl [CK.str] a, AV.rsl [CK.str] b], AV.val (Value.int IntKind.i64 n), AV.ptr 0 0,
            AV.val (Value.tuple #[]), AV.val (Value.int IntKind.i64 0), AV.val (Value.int IntKind.i64 0), AV.junk, AV.junk,
            AV.junk, AV.junk, AV.junk, AV.junk, AV.junk, AV.junk, AV.junk, AV.junk, AV.junk, AV.val (Value.tuple #[])],
        ob := [(0, AO.box [AV.rsl [CK.str] a, AV.rsl [CK.str] b])], nx := 1000000, ps := [] }) := by kernel_rfl
def st82 (a b : List (Elem ks)) (n i : Int) : St :=
  ⟨[AV.agg [AV.rsl [CK.str] a, AV.rsl [CK.str] b], .val (.int .i64 n), AV.ptr 0 0, AV.val (Value.tuple #[]), AV.val (Value.int IntKind.i64 0), .val (.int .i64 i), AV.junk, AV.junk, AV.junk, AV.junk, AV.junk, AV.junk, AV.junk, AV.junk, AV.junk, AV.junk, AV.junk, AV.val (Value.tuple #[])],
    [(0, AO.box [AV.rsl [CK.str] a, AV.rsl [CK.str] b])], 1000000, []⟩
theorem b82_0 (L : Lp) (R : Option Res → Prop) (N : St → Prop) (a b : List (Elem ks)) (n : Int) : (evP E82 G82 L (lp82 2) (st82 a b n 0) (rk82 L R 2 N)) = (
    br (inM n a.length)
      (br (decide (hdR (hdB ks mkT 1 n a) (n + (↑(1 * a.length) : Int)) < 0))
        (R (some { av := AV.val (Value.int IntKind.i64 (-1)), obs := [], outs := [] }))
        (N
          {
            tm :=
              [AV.agg [AV.rsl [CK.str] a, AV.rsl [CK.str] b],
                AV.val (Value.int IntKind.i64 (hdR (hdB ks mkT 1 n a) (n + (↑(1 * a.length) : Int)))), AV.ptr 0 0,
                AV.val (Value.tuple #[]), AV.val (Value.int IntKind.i64 0), AV.val (Value.int IntKind.i64 1), AV.junk,
                AV.junk, AV.junk, AV.junk, AV.junk, AV.junk, AV.junk, AV.junk, AV.junk, AV.junk, AV.junk,
                AV.val (Value.tuple #[])],
            ob := [(0, AO.box [AV.rsl [CK.str] a, AV.rsl [CK.str] b])], nx := 1000000, ps := [] }))
      False) := by kernel_rfl
theorem b82_1 (L : Lp) (R : Option Res → Prop) (N : St → Prop) (a b : List (Elem ks)) (n : Int) : (evP E82 G82 L (lp82 2) (st82 a b n 1) (rk82 L R 2 N)) = (
    br (inM n b.length)
      (br (decide (hdR (hdB ks mkT 1 n b) (n + (↑(1 * b.length) : Int)) < 0))
        (R (some { av := AV.val (Value.int IntKind.i64 (-1)), obs := [], outs := [] }))
        (N
          {
            tm :=
              [AV.agg [AV.rsl [CK.str] a, AV.rsl [CK.str] b],
                AV.val (Value.int IntKind.i64 (hdR (hdB ks mkT 1 n b) (n + (↑(1 * b.length) : Int)))), AV.ptr 0 0,
                AV.val (Value.tuple #[]), AV.val (Value.int IntKind.i64 0), AV.val (Value.int IntKind.i64 2), AV.junk,
                AV.junk, AV.junk, AV.junk, AV.junk, AV.junk, AV.junk, AV.junk, AV.junk, AV.junk, AV.junk,
                AV.val (Value.tuple #[])],
            ob := [(0, AO.box [AV.rsl [CK.str] a, AV.rsl [CK.str] b])], nx := 1000000, ps := [] }))
      False) := by kernel_rfl
theorem b82_2 (L : Lp) (R : Option Res → Prop) (N : St → Prop) (a b : List (Elem ks)) (n : Int) : (evP E82 G82 L (lp82 2) (st82 a b n 2) (rk82 L R 2 N)) = (
    R (some { av := AV.val (Value.int IntKind.i64 n), obs := [], outs := [] })) := by kernel_rfl
theorem h82 : G1Ok Try.prog 82 g82 := by
  intro args obs k h
  unfold g82 at h
  split at h
  · rename_i k a b n
    obtain ⟨ha, hb, h⟩ := brb2 h
    have hn := inM_ge ha
    have hn1 : 0 ≤ nxA n a := inM_ge hb
    have hn2 : 0 ≤ nxA (nxA n a) b := by unfold nxA at hn1 ⊢; omega
    refine ⟨_, ctr_fn ok1 hg82 Try.func82 (by kernel_rfl) (by kernel_rfl) (by kernel_rfl) fun C => ?_, h⟩
    rw [e82]
    refine loopUp okf82 hg82 (fun i m => st82 a b m i) 2 (fun i m => (i = 0 ∧ m = n) ∨ (i = 1 ∧ hdB ks mkT 1 n a = true ∧ m = nxA n a) ∨ (i = 2 ∧ hdB ks mkT 1 n a = true ∧ hdB ks mkT 1 (nxA n a) b = true ∧ m = nxA (nxA n a) b)) (fun N i m hi hI next => ?_) n (Or.inl ⟨rfl, rfl⟩)
    rcases hI with ⟨rfl, rfl⟩ | ⟨rfl, h1, rfl⟩ | ⟨rfl, h1, h2, rfl⟩
    · show evP E82 G82 _ (lp82 2) (st82 a b m 0) (rk82 _ _ 2 _)
      rw [b82_0]
      refine br_t ha (br_dec (fun h => ?_) (fun h => ?_))
      · have h := (hdR_lt (b := hdB ks mkT 1 m a) (n := nxA m a) hn1).1 h
        show _ = _
        rw [h]
        rfl
      · have h : hdB ks mkT 1 m a = true := by
          cases hq : hdB ks mkT 1 m a with
          | true => rfl
          | false => exact absurd ((hdR_lt (b := hdB ks mkT 1 m a) (n := nxA m a) hn1).2 hq) h
        rw [h]
        exact next (by omega) _ (Or.inr (Or.inl ⟨rfl, h, rfl⟩))
    · show evP E82 G82 _ (lp82 2) (st82 a b (nxA n a) 1) (rk82 _ _ 2 _)
      rw [b82_1]
      refine br_t hb (br_dec (fun h => ?_) (fun h => ?_))
      · have h := (hdR_lt (b := hdB ks mkT 1 (nxA n a) b) (n := nxA (nxA n a) b) hn2).1 h
        show _ = _
        rw [h, Bool.and_false]
        rfl
      · have h : hdB ks mkT 1 (nxA n a) b = true := by
          cases hq : hdB ks mkT 1 (nxA n a) b with
          | true => rfl
          | false => exact absurd ((hdR_lt (b := hdB ks mkT 1 (nxA n a) b) (n := nxA (nxA n a) b) hn2).2 hq) h
        rw [h]
        exact next (by omega) _ (Or.inr (Or.inr ⟨rfl, h1, h, rfl⟩))
    · show evP E82 G82 _ (lp82 2) (st82 a b (nxA (nxA n a) b) 2) (rk82 _ _ 2 _)
      rw [b82_2]
      show _ = _
      rw [h1, h2]
      rfl
  · exact h.elim
noncomputable def E38 : Env := E1.of Try.f38
noncomputable def G38 : Gk := gk [(80, g80), (81, g81)]
noncomputable def lp38 (n : Nat) : Code := (loopOf n (codeOf Try.f38)).getD .skip
noncomputable def ct38 (L : Lp) (R : Option Res → Prop) (n : Nat) : Kt := contOf E38 G38 L n (codeOf Try.f38) (endK E38 Try.f38.results.toList R)
noncomputable def rk38 (L : Lp) (R : Option Res → Prop) (n : Nat) (N : St → Prop) : Kt := rk (jof E38 (lp38 n)) N (ct38 L R n)
noncomputable def LOOP38 (L : Lp) (R : Option Res → Prop) (n : Nat) (st : St) : Prop := L (lp38 n) st (ct38 L R n)
theorem hg38 : HG Try.prog G38 := (hg_cons h80 (hg_cons h81 hg_nil))
theorem okf38 : Ok Try.prog E38 := ok1.of Try.f38
theorem e38 (L : Lp) (R : Option Res → Prop) (a b : List (Elem ks)) (c : List (Elem kl)) (n : Int) : (bodyP E1 G38 L Try.f38 [.agg [.ows 0, .ows 1, .ows 2], .val (.int .i64 n)] [.row ks a, .row ks b, .row kl c] R) = (
    br (inM n a.length && inM (nxA n a) b.length)
      (br (inM (nxA (nxA n a) b) c.length)
        (R
          (some
            { av := AV.val (Value.int IntKind.i64 (nxA (nxA n a) b + (↑(3 * c.length) : Int))),
              obs :=
                [AO.row [CK.str] (mkA n a), AO.row [CK.str] (mkA (nxA n a) b),
                  AO.row [CK.int IntKind.i64, CK.int IntKind.i64, CK.str] (mkS mkDl 3 (nxA (nxA n a) b) c.length)],
              outs := [some 0, some 1, some 2] }))
        False)
      False) := by kernel_rfl
theorem h38 : G1Ok Try.prog 38 g38 := by
  intro args obs k h
  unfold g38 at h
  split at h
  · rename_i k n a b c
    unfold inMD at h
    obtain ⟨hp, hc, h⟩ := brb2 h
    refine ⟨_, ctr_fn ok1 hg38 Try.func38 (by kernel_rfl) (by kernel_rfl) (by kernel_rfl) fun C => ?_, h⟩
    rw [e38]
    exact br_t hp (br_t hc rfl)
  · exact h.elim
noncomputable def E39 : Env := E1.of Try.f39
noncomputable def G39 : Gk := gk [(82, g82), (83, g83)]
noncomputable def lp39 (n : Nat) : Code := (loopOf n (codeOf Try.f39)).getD .skip
noncomputable def ct39 (L : Lp) (R : Option Res → Prop) (n : Nat) : Kt := contOf E39 G39 L n (codeOf Try.f39) (endK E39 Try.f39.results.toList R)
noncomputable def rk39 (L : Lp) (R : Option Res → Prop) (n : Nat) (N : St → Prop) : Kt := rk (jof E39 (lp39 n)) N (ct39 L R n)
noncomputable def LOOP39 (L : Lp) (R : Option Res → Prop) (n : Nat) (st : St) : Prop := L (lp39 n) st (ct39 L R n)
theorem hg39 : HG Try.prog G39 := (hg_cons h82 (hg_cons h83 hg_nil))
theorem okf39 : Ok Try.prog E39 := ok1.of Try.f39
theorem e39 (L : Lp) (R : Option Res → Prop) (a b : List (Elem ks)) (c : List (Elem kl)) (n : Int) : (bodyP E1 G39 L Try.f39 [.agg [.rsl ks a, .rsl ks b, .rsl kl c], .val (.int .i64 n)] [] R) = (
    br (inM n a.length && inM (nxA n a) b.length)
      (br (decide (hdR (hdB ks mkT 1 n a && hdB ks mkT 1 (nxA n a) b) (nxA (nxA n a) b) < 0))
        (R (some { av := AV.val (Value.int IntKind.i64 (-1)), obs := [], outs := [] }))
        (br (inM (hdR (hdB ks mkT 1 n a && hdB ks mkT 1 (nxA n a) b) (nxA (nxA n a) b)) c.length)
          (br
            (decide
              (hdR (hdB kl mkDl 3 (hdR (hdB ks mkT 1 n a && hdB ks mkT 1 (nxA n a) b) (nxA (nxA n a) b)) c)
                  (hdR (hdB ks mkT 1 n a && hdB ks mkT 1 (nxA n a) b) (nxA (nxA n a) b) + (↑(3 * c.length) : Int)) <
                0))
            (R (some { av := AV.val (Value.int IntKind.i64 (-1)), obs := [], outs := [] }))
            (R
              (some
                {
                  av :=
                    AV.val
                      (Value.int IntKind.i64
                        (hdR (hdB kl mkDl 3 (hdR (hdB ks mkT 1 n a && hdB ks mkT 1 (nxA n a) b) (nxA (nxA n a) b)) c)
                          (hdR (hdB ks mkT 1 n a && hdB ks mkT 1 (nxA n a) b) (nxA (nxA n a) b) +
                            (↑(3 * c.length) : Int)))),
                  obs := [], outs := [] })))
          False))
      False) := by kernel_rfl
theorem h39 : G1Ok Try.prog 39 g39 := by
  intro args obs k h
  unfold g39 at h
  split at h
  · rename_i k a b c n
    unfold inMD at h
    obtain ⟨hp, hc, h⟩ := brb2 h
    have n2 := inM_ge hc
    have n3 : 0 ≤ nxC (nxA (nxA n a) b) c := by unfold nxC; omega
    refine ⟨_, ctr_fn ok1 hg39 Try.func39 (by kernel_rfl) (by kernel_rfl) (by kernel_rfl) fun C => ?_, h⟩
    rw [e39]
    refine br_t hp (br_dec (fun h => ?_) (fun h => ?_))
    · have h := (hdR_lt n2).1 h
      show _ = _
      unfold hdD
      rw [h]
      rfl
    · have h : (hdB ks mkT 1 n a && hdB ks mkT 1 (nxA n a) b) = true := by
        cases hq : (hdB ks mkT 1 n a && hdB ks mkT 1 (nxA n a) b) with
        | true => rfl
        | false => exact absurd ((hdR_lt n2).2 hq) h
      have e : hdD n a b c = hdB kl mkDl 3 (nxA (nxA n a) b) c := by
        unfold hdD
        rw [h]
        rfl
      rw [h, e, show hdR true (nxA (nxA n a) b) = nxA (nxA n a) b from rfl]
      refine br_t hc (br_dec (fun h4 => ?_) (fun h4 => rfl))
      have h4 := (hdR_lt n3).1 h4
      show _ = _
      rw [h4]
      rfl
  · exact h.elim
def opD (n : Int) : Nat := match decide (1 ≤ n) && decide (n ≤ 120) with
  | true => n.toNat
  | false => 0
def opR (n : Int) : List (Elem ks) := List.replicate (opD n) (edflt ks)
def g36 : G1
  | [.val (.int .i64 n)], [], k => k ⟨.agg [.ows 0, .ows 1, .ows 2], [.row ks (opR n), .row ks (opR n), .row kl []], []⟩
  | _, _, _ => False
noncomputable def E36 : Env := E1.of Try.f36
noncomputable def G36 : Gk := gk [(65, g65)]
noncomputable def lp36 (n : Nat) : Code := (loopOf n (codeOf Try.f36)).getD .skip
noncomputable def ct36 (L : Lp) (R : Option Res → Prop) (n : Nat) : Kt := contOf E36 G36 L n (codeOf Try.f36) (endK E36 Try.f36.results.toList R)
noncomputable def rk36 (L : Lp) (R : Option Res → Prop) (n : Nat) (N : St → Prop) : Kt := rk (jof E36 (lp36 n)) N (ct36 L R n)
noncomputable def LOOP36 (L : Lp) (R : Option Res → Prop) (n : Nat) (st : St) : Prop := L (lp36 n) st (ct36 L R n)
theorem hg36 : HG Try.prog G36 := (hg_cons h65 hg_nil)
theorem okf36 : Ok Try.prog E36 := ok1.of Try.f36
theorem e36 (L : Lp) (R : Option Res → Prop) (n : Int) : (bodyP E1 G36 L Try.f36 [.val (.int .i64 n)] [] R) = (
    br (!(decide (1 ≤ n) && decide (n ≤ 120)))
      (R
        (some
          { av := AV.agg [AV.ows 0, AV.ows 1, AV.ows 2],
            obs := [AO.row [CK.str] [], AO.row [CK.str] [], AO.row [CK.int IntKind.i64, CK.int IntKind.i64, CK.str] []],
            outs := [] }))
      (br (decide (0 ≤ n ∧ n ≤ n ∧ 16 * n ≤ 281474976710656))
        (br (decide (0 ≤ n ∧ n ≤ n ∧ 16 * n ≤ 281474976710656))
          (R
            (some
              { av := AV.agg [AV.ows 0, AV.ows 1, AV.ows 2],
                obs :=
                  [AO.row [CK.str] (List.replicate n.toNat (edflt [CK.str])),
                    AO.row [CK.str] (List.replicate n.toNat (edflt [CK.str])),
                    AO.row [CK.int IntKind.i64, CK.int IntKind.i64, CK.str] []],
                outs := [] }))
          False)
        False)) := by kernel_rfl
theorem h36 : G1Ok Try.prog 36 g36 := by
  intro args obs k h
  unfold g36 at h
  split at h
  · rename_i k n
    refine ⟨_, ctr_fn ok1 hg36 Try.func36 (by kernel_rfl) (by kernel_rfl) (by kernel_rfl) fun C => ?_, h⟩
    rw [e36]
    refine br_not (fun h => ?_) (fun h => ?_)
    · show _ = _
      unfold opR opD
      rw [h]
      rfl
    · have h' := h
      simp only [Bool.and_eq_true, decide_eq_true_eq] at h'
      refine br_yes (by omega) (br_yes (by omega) ?_)
      show _ = _
      unfold opR opD
      rw [h]
  · exact h.elim
noncomputable def E35 : Env := E1.of Try.f35
noncomputable def G35 : Gk := gk []
noncomputable def lp35 (n : Nat) : Code := (loopOf n (codeOf Try.f35)).getD .skip
noncomputable def ct35 (L : Lp) (R : Option Res → Prop) (n : Nat) : Kt := contOf E35 G35 L n (codeOf Try.f35) (endK E35 Try.f35.results.toList R)
noncomputable def rk35 (L : Lp) (R : Option Res → Prop) (n : Nat) (N : St → Prop) : Kt := rk (jof E35 (lp35 n)) N (ct35 L R n)
noncomputable def LOOP35 (L : Lp) (R : Option Res → Prop) (n : Nat) (st : St) : Prop := L (lp35 n) st (ct35 L R n)
theorem hg35 : HG Try.prog G35 := hg_nil
theorem okf35 : Ok Try.prog E35 := ok1.of Try.f35
theorem e35 (L : Lp) (R : Option Res → Prop) (n : Int) : (bodyP E1 G35 L Try.f35 [.val (.int .i64 n)] [] R) = (
    br (decide (n < 1))
      (R
        (some
          { av := AV.agg [AV.ows 0, AV.ows 1, AV.ows 2],
            obs := [AO.row [CK.str] [], AO.row [CK.str] [], AO.row [CK.int IntKind.i64, CK.int IntKind.i64, CK.str] []],
            outs := [] }))
      (br (decide (n > 120))
        (R
          (some
            { av := AV.agg [AV.ows 0, AV.ows 1, AV.ows 2],
              obs := [AO.row [CK.str] [], AO.row [CK.str] [], AO.row [CK.int IntKind.i64, CK.int IntKind.i64, CK.str] []],
              outs := [] }))
        (br (decide (0 ≤ n ∧ n ≤ n ∧ 16 * n ≤ 281474976710656))
          (br (decide (0 ≤ n ∧ n ≤ n ∧ 16 * n ≤ 281474976710656))
            (R
              (some
                { av := AV.agg [AV.ows 0, AV.ows 1, AV.ows 2],
                  obs :=
                    [AO.row [CK.str] (List.replicate n.toNat (edflt [CK.str])),
                      AO.row [CK.str] (List.replicate n.toNat (edflt [CK.str])),
                      AO.row [CK.int IntKind.i64, CK.int IntKind.i64, CK.str] []],
                  outs := [] }))
            False)
          False))) := by kernel_rfl
theorem h35 : G1Ok Try.prog 35 g36 := by
  intro args obs k h
  unfold g36 at h
  split at h
  · rename_i k n
    refine ⟨_, ctr_fn ok1 hg35 Try.func35 (by kernel_rfl) (by kernel_rfl) (by kernel_rfl) fun C => ?_, h⟩
    rw [e35]
    have f0 : ¬ (1 ≤ n ∧ n ≤ 120) → opR n = [] := by
      intro h
      unfold opR opD
      rw [show (decide (1 ≤ n) && decide (n ≤ 120)) = false from by
        rw [Bool.and_eq_false_iff, decide_eq_false_iff_not, decide_eq_false_iff_not]
        omega]
      rfl
    have f1 : 1 ≤ n ∧ n ≤ 120 → opR n = List.replicate n.toNat (edflt ks) := by
      intro h
      unfold opR opD
      rw [decide_eq_true h.1, decide_eq_true h.2]
      rfl
    refine br_dec (fun h => ?_) (fun h => br_dec (fun h2 => ?_) (fun h2 => br_yes (by omega) (br_yes (by omega) ?_)))
    · show _ = _
      rw [f0 (by omega)]
    · show _ = _
      rw [f0 (by omega)]
    · show _ = _
      rw [f1 (by omega)]
  · exact h.elim
noncomputable def E8 : Env := E1.of Try.f8
noncomputable def G8 : Gk := gk [(35, g36), (36, g36), (37, g37), (38, g38), (39, g39)]
noncomputable def lp8 (n : Nat) : Code := (loopOf n (codeOf Try.f8)).getD .skip
noncomputable def ct8 (L : Lp) (R : Option Res → Prop) (n : Nat) : Kt := contOf E8 G8 L n (codeOf Try.f8) (endK E8 Try.f8.results.toList R)
noncomputable def rk8 (L : Lp) (R : Option Res → Prop) (n : Nat) (N : St → Prop) : Kt := rk (jof E8 (lp8 n)) N (ct8 L R n)
noncomputable def LOOP8 (L : Lp) (R : Option Res → Prop) (n : Nat) (st : St) : Prop := L (lp8 n) st (ct8 L R n)
theorem hg8 : HG Try.prog G8 := (hg_cons h35 (hg_cons h36 (hg_cons h37 (hg_cons h38 (hg_cons h39 hg_nil)))))
theorem okf8 : Ok Try.prog E8 := ok1.of Try.f8
theorem e8 (L : Lp) (R : Option Res → Prop) (n : Int) : (bodyP E1 G8 L Try.f8 [.val (.int .i64 n)] [] R) = (
    br (smD (opR n) (opR n) [])
      (br (!eqD (opR n) (opR n) [] (opR n) (opR n) []) (R (some { av := AV.val (Value.bool false), obs := [], outs := [] }))
        (br (inMD 1 (opR n) (opR n) [])
          (br (inMD 1 (mkA 1 (opR n)) (mkA (nxA 1 (opR n)) (opR n)) (mkC (nxA (nxA 1 (opR n)) (opR n)) []))
            (br
              (decide
                (hdR (hdD 1 (mkA 1 (opR n)) (mkA (nxA 1 (opR n)) (opR n)) (mkC (nxA (nxA 1 (opR n)) (opR n)) []))
                    (nxC (nxA (nxA 1 (mkA 1 (opR n))) (mkA (nxA 1 (opR n)) (opR n)))
                      (mkC (nxA (nxA 1 (opR n)) (opR n)) [])) <
                  0))
              (R (some { av := AV.val (Value.bool false), obs := [], outs := [] }))
              (br
                (hdR (hdD 1 (mkA 1 (opR n)) (mkA (nxA 1 (opR n)) (opR n)) (mkC (nxA (nxA 1 (opR n)) (opR n)) []))
                    (nxC (nxA (nxA 1 (mkA 1 (opR n))) (mkA (nxA 1 (opR n)) (opR n)))
                      (mkC (nxA (nxA 1 (opR n)) (opR n)) [])) !=
                  nxC (nxA (nxA 1 (opR n)) (opR n)) [])
                (R (some { av := AV.val (Value.bool false), obs := [], outs := [] }))
                (br (smD (opR n) (opR n) [])
                  (br (!eqD (opR n) (opR n) [] (opR n) (opR n) [])
                    (R (some { av := AV.val (Value.bool false), obs := [], outs := [] }))
                    (br (inMD 1 (mkA 1 (opR n)) (mkA (nxA 1 (opR n)) (opR n)) (mkC (nxA (nxA 1 (opR n)) (opR n)) []))
                      (br
                        (decide
                          (hdR (hdD 1 (mkA 1 (opR n)) (mkA (nxA 1 (opR n)) (opR n)) (mkC (nxA (nxA 1 (opR n)) (opR n)) []))
                              (nxC (nxA (nxA 1 (mkA 1 (opR n))) (mkA (nxA 1 (opR n)) (opR n)))
                                (mkC (nxA (nxA 1 (opR n)) (opR n)) [])) <
                            0))
                        (R (some { av := AV.val (Value.bool false), obs := [], outs := [] }))
                        (br
                          (hdR (hdD 1 (mkA 1 (opR n)) (mkA (nxA 1 (opR n)) (opR n)) (mkC (nxA (nxA 1 (opR n)) (opR n)) []))
                              (nxC (nxA (nxA 1 (mkA 1 (opR n))) (mkA (nxA 1 (opR n)) (opR n)))
                                (mkC (nxA (nxA 1 (opR n)) (opR n)) [])) !=
                            nxC (nxA (nxA 1 (opR n)) (opR n)) [])
                          (R (some { av := AV.val (Value.bool false), obs := [], outs := [] }))
                          (R (some { av := AV.val (Value.bool true), obs := [], outs := [] }))))
                      False))
                  False)))
            False)
          False))
      False) := by kernel_rfl
theorem hdB_mk (cs : List CK) (f : Int → Elem cs) (w : Nat) (k : Int) (n : Nat) : hdB cs f w k (mkS f w k n) = true := by
  refine allB_t fun i hi => ?_
  have hi : i < n := by simpa [mkS] using hi
  rw [mkS_getD _ _ _ _ _ hi]
  exact elemEq_self _ _
theorem mkA_len (n : Int) (a : List (Elem ks)) : (mkA n a).length = a.length := by simp [mkA, mkS]
theorem mkC_len (n : Int) (a : List (Elem kl)) : (mkC n a).length = a.length := by simp [mkC, mkS]
theorem nxA_mk (n m : Int) (a : List (Elem ks)) : nxA n (mkA m a) = nxA n a := by unfold nxA; rw [mkA_len]
theorem nxC_mk (n m : Int) (a : List (Elem kl)) : nxC n (mkC m a) = nxC n a := by unfold nxC; rw [mkC_len]
theorem hdD_mk (n : Int) (a b : List (Elem ks)) (c : List (Elem kl)) : hdD n (mkA n a) (mkA (nxA n a) b) (mkC (nxA (nxA n a) b) c) = true := by
  unfold hdD
  rw [nxA_mk, nxA_mk]
  unfold mkA mkC
  rw [hdB_mk, hdB_mk, hdB_mk]
  rfl
theorem inMD_mk (n m1 m2 m3 : Int) (a b : List (Elem ks)) (c : List (Elem kl)) : inMD n (mkA m1 a) (mkA m2 b) (mkC m3 c) = inMD n a b c := by
  unfold inMD
  rw [nxA_mk, nxA_mk, mkA_len, mkA_len, mkC_len]
theorem inMD_of {a b : List (Elem ks)} {c : List (Elem kl)} (ha : a.length ≤ 1048576) (hb : b.length ≤ 1048576) (hc : c.length ≤ 1048576) : inMD 1 a b c = true := by
  unfold inMD inM nxA
  simp only [Bool.and_eq_true, decide_eq_true_eq]
  omega
theorem opR_len (n : Int) : (opR n).length ≤ 120 := by
  unfold opR opD
  rw [List.length_replicate]
  split
  · rename_i h
    simp only [Bool.and_eq_true, decide_eq_true_eq] at h
    omega
  · omega
theorem c8 (n : Int) : Ctr Try.prog 8 [.val (.int .i64 n)] [] ⟨.val (.bool true), [], []⟩ := by
  refine ctr_fn ok1 hg8 Try.func8 (by kernel_rfl) (by kernel_rfl) (by kernel_rfl) fun C => ?_
  have hl := opR_len n
  have hz : ([] : List (Elem kl)).length = 0 := rfl
  have h0 : smD (opR n) (opR n) [] = true := by
    unfold smD
    simp only [Bool.and_eq_true, decide_eq_true_eq]
    omega
  have h1 : inMD 1 (opR n) (opR n) [] = true := inMD_of (by omega) (by omega) (by omega)
  have hge : ¬ (nxC (nxA (nxA 1 (opR n)) (opR n)) [] < 0) := by unfold nxC nxA; omega
  rw [e8, eqD_self, inMD_mk, hdD_mk, nxA_mk, nxA_mk, nxC_mk]
  refine br_t h0 (br_not (fun h => by cases h) (fun _ => br_t h1 (br_t h1 (br_no hge (br_bne (fun h => ?_) (fun _ => br_t h0 (br_not (fun h => by cases h) (fun _ => br_t h1 (br_no hge (br_bne (fun h => ?_) (fun _ => rfl)))))))))))
  · simp [hdR] at h
  · simp [hdR] at h
end Go.Proofs.Ytjhjhkphcemcmaa.Ev
