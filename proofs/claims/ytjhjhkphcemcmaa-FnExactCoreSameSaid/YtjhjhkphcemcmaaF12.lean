/- The law of DiskRead. -/
import Derived.Test.YtjhjhkphcemcmaaF11
namespace Go.Proofs.Ytjhjhkphcemcmaa.Ev
open Go
set_option linter.unusedVariables false
set_option linter.unusedSimpArgs false
set_option maxRecDepth 100000
def hitL (e : Elem kl) (s i : Int) : Bool := e.1 == s && e.2.1 == i
def lkL (c : List (Elem kl)) (s i : Int) : Nat → Option ByteArray
  | 0 => none
  | n + 1 => match hitL (c.getD n (edflt kl)) s i with
    | true => some (c.getD n (edflt kl)).2.2.1
    | false => lkL c s i n
def sideAt (a b : List (Elem ks)) (s i : Int) : ByteArray := match s == 0 with
  | true => (a.getD i.toNat (edflt ks)).1
  | false => (b.getD i.toNat (edflt ks)).1
def rdD (a b : List (Elem ks)) (c : List (Elem kl)) (s i : Int) : ByteArray := match lkL c s i c.length with
  | some t => t
  | none => sideAt a b s i
def g99 : G1
  | [.agg [.rsl [.str] a, .rsl [.str] b, .rsl [.int .i64, .int .i64, .str] c], .val (.int .i64 s), .val (.int .i64 i)], [], k =>
    br (secOk a.length s i && (decide (b.length = a.length) && decide (c.length ≤ 1048576))) (k ⟨.val (.string (rdD a b c s i)), [], []⟩) False
  | _, _, _ => False
noncomputable def E99 : Env := E0.of Try.f99
noncomputable def G99 : Gk := gk []
noncomputable def lp99 (n : Nat) : Code := (loopOf n (codeOf Try.f99)).getD .skip
noncomputable def ct99 (L : Lp) (R : Option Res → Prop) (n : Nat) : Kt := contOf E99 G99 L n (codeOf Try.f99) (endK E99 Try.f99.results.toList R)
noncomputable def rk99 (L : Lp) (R : Option Res → Prop) (n : Nat) (N : St → Prop) : Kt := rk (jof E99 (lp99 n)) N (ct99 L R n)
noncomputable def LOOP99 (L : Lp) (R : Option Res → Prop) (n : Nat) (st : St) : Prop := L (lp99 n) st (ct99 L R n)
theorem hg99 : HG Try.prog G99 := hg_nil
theorem okf99 : Ok Try.prog E99 := ok0.of Try.f99
theorem e99 (L : Lp) (R : Option Res → Prop) (a b : List (Elem ks)) (c : List (Elem kl)) (s i : Int) : (bodyP E0 G99 L Try.f99 [.agg [.rsl ks a, .rsl ks b, .rsl kl c], .val (.int .i64 s), .val (.int .i64 i)] [] R) = (
    LOOP99 L R 2
      {
        tm :=
          [AV.agg [AV.rsl [CK.str] a, AV.rsl [CK.str] b, AV.rsl [CK.int IntKind.i64, CK.int IntKind.i64, CK.str] c],
            AV.val (Value.int IntKind.i64 s), AV.val (Value.int IntKind.i64 i), AV.ptr 0 0, AV.val (Value.tuple #[]),
            AV.val (Value.tuple #[]), AV.val (Value.string { data := #[] }),
            AV.val (Value.int IntKind.i64 (IntKind.i64.wrap ((↑c.length : Int) - 1))), AV.ptr 0 2,
            AV.rsl [CK.int IntKind.i64, CK.int IntKind.i64, CK.str] c, AV.val (Value.int IntKind.i64 (↑c.length : Int)),
            AV.val (Value.int IntKind.i64 (IntKind.i64.wrap ((↑c.length : Int) - 1))), AV.junk, AV.junk, AV.junk, AV.junk,
            AV.junk, AV.junk, AV.junk, AV.junk, AV.junk, AV.junk, AV.junk, AV.junk, AV.junk, AV.junk, AV.junk, AV.junk,
            AV.junk, AV.junk, AV.junk, AV.junk, AV.junk, AV.junk, AV.junk, AV.junk, AV.junk, AV.junk, AV.junk, AV.junk,
            AV.val (Value.tuple #[]), AV.val (Value.tuple #[]), AV.val (Value.tuple #[]), AV.val (Value.tuple #[]),
            AV.val (Value.tuple #[]), AV.val (Value.tuple #[]), AV.val (Value.tuple #[])],
        ob :=
          [(0, AO.box [AV.rsl [CK.str] a, AV.rsl [CK.str] b, AV.rsl [CK.int IntKind.i64, CK.int IntKind.i64, CK.str] c])],
        nx := 1000000, ps := [] }) := by kernel_rfl
def st99 (a b : List (Elem ks)) (c : List (Elem kl)) (s i j : Int) : St :=
  ⟨[AV.agg [AV.rsl [CK.str] a, AV.rsl [CK.str] b, AV.rsl [CK.int IntKind.i64, CK.int IntKind.i64, CK.str] c], AV.val (Value.int IntKind.i64 s), AV.val (Value.int IntKind.i64 i), AV.ptr 0 0, AV.val (Value.tuple #[]), AV.val (Value.tuple #[]), AV.val (Value.string { data := #[] }), .val (.int .i64 j), AV.ptr 0 2, AV.rsl [CK.int IntKind.i64, CK.int IntKind.i64, CK.str] c, AV.val (Value.int IntKind.i64 (↑c.length : Int)), AV.val (Value.int IntKind.i64 (IntKind.i64.wrap ((↑c.length : Int) - 1))), AV.junk, AV.junk, AV.junk, AV.junk, AV.junk, AV.junk, AV.junk, AV.junk, AV.junk, AV.junk, AV.junk, AV.junk, AV.junk, AV.junk, AV.junk, AV.junk, AV.junk, AV.junk, AV.junk, AV.junk, AV.junk, AV.junk, AV.junk, AV.junk, AV.junk, AV.junk, AV.junk, AV.junk, AV.val (Value.tuple #[]), AV.val (Value.tuple #[]), AV.val (Value.tuple #[]), AV.val (Value.tuple #[]), AV.val (Value.tuple #[]), AV.val (Value.tuple #[]), AV.val (Value.tuple #[])],
    [(0, AO.box [AV.rsl [CK.str] a, AV.rsl [CK.str] b, AV.rsl [CK.int IntKind.i64, CK.int IntKind.i64, CK.str] c])], 1000000, []⟩
theorem b99 (L : Lp) (R : Option Res → Prop) (N : St → Prop) (a b : List (Elem ks)) (c : List (Elem kl)) (s i j : Int) : (evP E99 G99 L (lp99 2) (st99 a b c s i j) (rk99 L R 2 N)) = (
    br (decide (j ≥ 0))
      (br (decide (0 ≤ j ∧ j < (↑c.length : Int)))
        (br ((c.getD j.toNat (edflt [CK.int IntKind.i64, CK.int IntKind.i64, CK.str])).fst == s)
          (br (decide (0 ≤ j ∧ j < (↑c.length : Int)))
            (br ((c.getD j.toNat (edflt [CK.int IntKind.i64, CK.int IntKind.i64, CK.str])).snd.fst == i)
              (br (decide (0 ≤ j ∧ j < (↑c.length : Int)))
                (R
                  (some
                    {
                      av :=
                        AV.val
                          (Value.string
                            (c.getD j.toNat (edflt [CK.int IntKind.i64, CK.int IntKind.i64, CK.str])).snd.snd.fst),
                      obs := [], outs := [] }))
                False)
              (N
                {
                  tm :=
                    [AV.agg
                        [AV.rsl [CK.str] a, AV.rsl [CK.str] b, AV.rsl [CK.int IntKind.i64, CK.int IntKind.i64, CK.str] c],
                      AV.val (Value.int IntKind.i64 s), AV.val (Value.int IntKind.i64 i), AV.ptr 0 0,
                      AV.val (Value.tuple #[]), AV.val (Value.tuple #[]), AV.val (Value.string { data := #[] }),
                      AV.val (Value.int IntKind.i64 (IntKind.i64.wrap (j - 1))), AV.ptr 0 2,
                      AV.rsl [CK.int IntKind.i64, CK.int IntKind.i64, CK.str] c,
                      AV.val (Value.int IntKind.i64 (↑c.length : Int)),
                      AV.val (Value.int IntKind.i64 (IntKind.i64.wrap ((↑c.length : Int) - 1))), AV.junk, AV.junk, AV.junk,
                      AV.junk, AV.junk, AV.junk, AV.junk, AV.junk, AV.junk, AV.junk, AV.junk, AV.junk, AV.junk, AV.junk,
                      AV.junk, AV.junk, AV.junk, AV.junk, AV.junk, AV.junk, AV.junk, AV.junk, AV.junk, AV.junk, AV.junk,
                      AV.junk, AV.junk, AV.junk, AV.val (Value.tuple #[]), AV.val (Value.tuple #[]),
                      AV.val (Value.tuple #[]), AV.val (Value.tuple #[]), AV.val (Value.tuple #[]),
                      AV.val (Value.tuple #[]), AV.val (Value.tuple #[])],
                  ob :=
                    [(0,
                        AO.box
                          [AV.rsl [CK.str] a, AV.rsl [CK.str] b,
                            AV.rsl [CK.int IntKind.i64, CK.int IntKind.i64, CK.str] c])],
                  nx := 1000000, ps := [] }))
            False)
          (N
            {
              tm :=
                [AV.agg [AV.rsl [CK.str] a, AV.rsl [CK.str] b, AV.rsl [CK.int IntKind.i64, CK.int IntKind.i64, CK.str] c],
                  AV.val (Value.int IntKind.i64 s), AV.val (Value.int IntKind.i64 i), AV.ptr 0 0, AV.val (Value.tuple #[]),
                  AV.val (Value.tuple #[]), AV.val (Value.string { data := #[] }),
                  AV.val (Value.int IntKind.i64 (IntKind.i64.wrap (j - 1))), AV.ptr 0 2,
                  AV.rsl [CK.int IntKind.i64, CK.int IntKind.i64, CK.str] c,
                  AV.val (Value.int IntKind.i64 (↑c.length : Int)),
                  AV.val (Value.int IntKind.i64 (IntKind.i64.wrap ((↑c.length : Int) - 1))), AV.junk, AV.junk, AV.junk,
                  AV.junk, AV.junk, AV.junk, AV.junk, AV.junk, AV.junk, AV.junk, AV.junk, AV.junk, AV.junk, AV.junk,
                  AV.junk, AV.junk, AV.junk, AV.junk, AV.junk, AV.junk, AV.junk, AV.junk, AV.junk, AV.junk, AV.junk,
                  AV.junk, AV.junk, AV.junk, AV.val (Value.tuple #[]), AV.val (Value.tuple #[]), AV.val (Value.tuple #[]),
                  AV.val (Value.tuple #[]), AV.val (Value.tuple #[]), AV.val (Value.tuple #[]), AV.val (Value.tuple #[])],
              ob :=
                [(0,
                    AO.box
                      [AV.rsl [CK.str] a, AV.rsl [CK.str] b, AV.rsl [CK.int IntKind.i64, CK.int IntKind.i64, CK.str] c])],
              nx := 1000000, ps := [] }))
        False)
      (br (s == 0)
        (br (decide (0 ≤ i ∧ i < (↑a.length : Int)))
          (R (some { av := AV.val (Value.string (a.getD i.toNat (edflt [CK.str])).fst), obs := [], outs := [] })) False)
        (br (s == 1)
          (br (decide (0 ≤ i ∧ i < (↑b.length : Int)))
            (R (some { av := AV.val (Value.string (b.getD i.toNat (edflt [CK.str])).fst), obs := [], outs := [] })) False)
          False))) := by kernel_rfl
theorem h99 : G1Ok Try.prog 99 g99 := by
  intro args obs k h
  unfold g99 at h
  split at h
  · rename_i k a b c s i
    obtain ⟨hs, hq, h⟩ := brb2 h
    rw [Bool.and_eq_true, decide_eq_true_eq, decide_eq_true_eq] at hq
    have hs' := hs
    simp only [secOk, Bool.and_eq_true, decide_eq_true_eq] at hs'
    refine ⟨_, ctr_fn ok0 hg99 Try.func99 (by kernel_rfl) (by kernel_rfl) (by kernel_rfl) fun C => ?_, h⟩
    rw [e99]
    refine loopDown okf99 hg99 (fun j => st99 a b c s i j) c.length (fun q => lkL c s i c.length = lkL c s i q) (fun N h0 => ?_) (fun N q hq' hI next => ?_) _ (wrap_id (by omega) (by omega)) rfl
    · show evP E99 G99 _ (lp99 2) (st99 a b c s i (-1)) (rk99 _ _ 2 _)
      rw [b99]
      have e : rdD a b c s i = sideAt a b s i := by
        unfold rdD
        rw [h0]
        rfl
      refine br_no (by omega) (br_intro (fun h1 => br_yes ⟨by omega, by omega⟩ ?_) (fun h1 => br_intro (fun h2 => br_yes ⟨by omega, by omega⟩ ?_) (fun h2 => ?_)))
      · show _ = _
        rw [e]
        unfold sideAt
        rw [h1]
      · show _ = _
        rw [e]
        unfold sideAt
        rw [h1]
      · simp at h1 h2
        omega
    · show evP E99 G99 _ (lp99 2) (st99 a b c s i q) (rk99 _ _ 2 _)
      rw [b99, Int.toNat_natCast, wrap_id (n := (q : Int) - 1) (by omega) (by omega)]
      have miss : hitL (c.getD q (edflt kl)) s i = false → N (st99 a b c s i ((q : Int) - 1)) := fun h1 => next (by
        rw [hI]
        show (match hitL (c.getD q (edflt kl)) s i with | true => some (c.getD q (edflt kl)).2.2.1 | false => lkL c s i q) = _
        rw [h1])
      refine br_yes (by omega) (br_yes ⟨by omega, by omega⟩ (br_intro (fun h1 => br_yes ⟨by omega, by omega⟩ (br_intro (fun h2 => br_yes ⟨by omega, by omega⟩ ?_) (fun h2 => miss ?_))) (fun h1 => miss ?_)))
      · show _ = _
        have : lkL c s i (q + 1) = some (c.getD q (edflt kl)).2.2.1 := by
          show (match hitL (c.getD q (edflt kl)) s i with | true => some (c.getD q (edflt kl)).2.2.1 | false => lkL c s i q) = _
          unfold hitL
          rw [h1, h2]
          rfl
        unfold rdD
        rw [hI, this]
      · unfold hitL
        rw [h2, Bool.and_false]
      · unfold hitL
        rw [h1]
        rfl
  · exact h.elim
noncomputable def E100 : Env := E0.of Try.f100
noncomputable def G100 : Gk := gk []
noncomputable def lp100 (n : Nat) : Code := (loopOf n (codeOf Try.f100)).getD .skip
noncomputable def ct100 (L : Lp) (R : Option Res → Prop) (n : Nat) : Kt := contOf E100 G100 L n (codeOf Try.f100) (endK E100 Try.f100.results.toList R)
noncomputable def rk100 (L : Lp) (R : Option Res → Prop) (n : Nat) (N : St → Prop) : Kt := rk (jof E100 (lp100 n)) N (ct100 L R n)
noncomputable def LOOP100 (L : Lp) (R : Option Res → Prop) (n : Nat) (st : St) : Prop := L (lp100 n) st (ct100 L R n)
theorem hg100 : HG Try.prog G100 := hg_nil
theorem okf100 : Ok Try.prog E100 := ok0.of Try.f100
theorem e100 (L : Lp) (R : Option Res → Prop) (a b : List (Elem ks)) (c : List (Elem kl)) (s i : Int) : (bodyP E0 G100 L Try.f100 [.agg [.rsl ks a, .rsl ks b, .rsl kl c], .val (.int .i64 s), .val (.int .i64 i)] [] R) = (
    LOOP100 L R 2
      {
        tm :=
          [AV.agg [AV.rsl [CK.str] a, AV.rsl [CK.str] b, AV.rsl [CK.int IntKind.i64, CK.int IntKind.i64, CK.str] c],
            AV.val (Value.int IntKind.i64 s), AV.val (Value.int IntKind.i64 i), AV.ptr 0 0, AV.val (Value.tuple #[]),
            AV.val (Value.tuple #[]), AV.val (Value.string { data := #[] }),
            AV.val (Value.int IntKind.i64 (IntKind.i64.wrap ((↑c.length : Int) - 1))), AV.junk, AV.ptr 0 2,
            AV.rsl [CK.int IntKind.i64, CK.int IntKind.i64, CK.str] c, AV.val (Value.int IntKind.i64 (↑c.length : Int)),
            AV.val (Value.int IntKind.i64 (IntKind.i64.wrap ((↑c.length : Int) - 1))), AV.junk, AV.junk, AV.junk, AV.junk,
            AV.junk, AV.junk, AV.junk, AV.junk, AV.junk, AV.junk, AV.junk, AV.junk, AV.junk, AV.junk, AV.junk, AV.junk,
            AV.junk, AV.junk, AV.junk, AV.junk, AV.junk, AV.val (Value.tuple #[]), AV.val (Value.tuple #[]),
            AV.val (Value.tuple #[]), AV.val (Value.tuple #[]), AV.val (Value.tuple #[]), AV.val (Value.tuple #[]),
            AV.val (Value.tuple #[])],
        ob :=
          [(0, AO.box [AV.rsl [CK.str] a, AV.rsl [CK.str] b, AV.rsl [CK.int IntKind.i64, CK.int IntKind.i64, CK.str] c])],
        nx := 1000000, ps := [] }) := by kernel_rfl
def st100 (a b : List (Elem ks)) (c : List (Elem kl)) (s i j : Int) : St :=
  ⟨[AV.agg [AV.rsl [CK.str] a, AV.rsl [CK.str] b, AV.rsl [CK.int IntKind.i64, CK.int IntKind.i64, CK.str] c], AV.val (Value.int IntKind.i64 s), AV.val (Value.int IntKind.i64 i), AV.ptr 0 0, AV.val (Value.tuple #[]), AV.val (Value.tuple #[]), AV.val (Value.string { data := #[] }), .val (.int .i64 j), AV.junk, AV.ptr 0 2, AV.rsl [CK.int IntKind.i64, CK.int IntKind.i64, CK.str] c, AV.val (Value.int IntKind.i64 (↑c.length : Int)), AV.val (Value.int IntKind.i64 (IntKind.i64.wrap ((↑c.length : Int) - 1))), AV.junk, AV.junk, AV.junk, AV.junk, AV.junk, AV.junk, AV.junk, AV.junk, AV.junk, AV.junk, AV.junk, AV.junk, AV.junk, AV.junk, AV.junk, AV.junk, AV.junk, AV.junk, AV.junk, AV.junk, AV.junk, AV.val (Value.tuple #[]), AV.val (Value.tuple #[]), AV.val (Value.tuple #[]), AV.val (Value.tuple #[]), AV.val (Value.tuple #[]), AV.val (Value.tuple #[]), AV.val (Value.tuple #[])],
    [(0, AO.box [AV.rsl [CK.str] a, AV.rsl [CK.str] b, AV.rsl [CK.int IntKind.i64, CK.int IntKind.i64, CK.str] c])], 1000000, []⟩
theorem b100 (L : Lp) (R : Option Res → Prop) (N : St → Prop) (a b : List (Elem ks)) (c : List (Elem kl)) (s i j : Int) : (evP E100 G100 L (lp100 2) (st100 a b c s i j) (rk100 L R 2 N)) = (
    br (decide (j ≥ 0))
      (br (decide (0 ≤ j ∧ j < (↑c.length : Int)))
        (br ((c.getD j.toNat (edflt [CK.int IntKind.i64, CK.int IntKind.i64, CK.str])).fst == s)
          (br ((c.getD j.toNat (edflt [CK.int IntKind.i64, CK.int IntKind.i64, CK.str])).snd.fst == i)
            (R
              (some
                {
                  av :=
                    AV.val
                      (Value.string (c.getD j.toNat (edflt [CK.int IntKind.i64, CK.int IntKind.i64, CK.str])).snd.snd.fst),
                  obs := [], outs := [] }))
            (N
              {
                tm :=
                  [AV.agg [AV.rsl [CK.str] a, AV.rsl [CK.str] b, AV.rsl [CK.int IntKind.i64, CK.int IntKind.i64, CK.str] c],
                    AV.val (Value.int IntKind.i64 s), AV.val (Value.int IntKind.i64 i), AV.ptr 0 0,
                    AV.val (Value.tuple #[]), AV.val (Value.tuple #[]), AV.val (Value.string { data := #[] }),
                    AV.val (Value.int IntKind.i64 (IntKind.i64.wrap (j - 1))), AV.junk, AV.ptr 0 2,
                    AV.rsl [CK.int IntKind.i64, CK.int IntKind.i64, CK.str] c,
                    AV.val (Value.int IntKind.i64 (↑c.length : Int)),
                    AV.val (Value.int IntKind.i64 (IntKind.i64.wrap ((↑c.length : Int) - 1))), AV.junk, AV.junk, AV.junk,
                    AV.junk, AV.junk, AV.junk, AV.junk, AV.junk, AV.junk, AV.junk, AV.junk, AV.junk, AV.junk, AV.junk,
                    AV.junk, AV.junk, AV.junk, AV.junk, AV.junk, AV.junk, AV.junk, AV.val (Value.tuple #[]),
                    AV.val (Value.tuple #[]), AV.val (Value.tuple #[]), AV.val (Value.tuple #[]), AV.val (Value.tuple #[]),
                    AV.val (Value.tuple #[]), AV.val (Value.tuple #[])],
                ob :=
                  [(0,
                      AO.box
                        [AV.rsl [CK.str] a, AV.rsl [CK.str] b, AV.rsl [CK.int IntKind.i64, CK.int IntKind.i64, CK.str] c])],
                nx := 1000000, ps := [] }))
          (N
            {
              tm :=
                [AV.agg [AV.rsl [CK.str] a, AV.rsl [CK.str] b, AV.rsl [CK.int IntKind.i64, CK.int IntKind.i64, CK.str] c],
                  AV.val (Value.int IntKind.i64 s), AV.val (Value.int IntKind.i64 i), AV.ptr 0 0, AV.val (Value.tuple #[]),
                  AV.val (Value.tuple #[]), AV.val (Value.string { data := #[] }),
                  AV.val (Value.int IntKind.i64 (IntKind.i64.wrap (j - 1))), AV.junk, AV.ptr 0 2,
                  AV.rsl [CK.int IntKind.i64, CK.int IntKind.i64, CK.str] c,
                  AV.val (Value.int IntKind.i64 (↑c.length : Int)),
                  AV.val (Value.int IntKind.i64 (IntKind.i64.wrap ((↑c.length : Int) - 1))), AV.junk, AV.junk, AV.junk,
                  AV.junk, AV.junk, AV.junk, AV.junk, AV.junk, AV.junk, AV.junk, AV.junk, AV.junk, AV.junk, AV.junk,
                  AV.junk, AV.junk, AV.junk, AV.junk, AV.junk, AV.junk, AV.junk, AV.val (Value.tuple #[]),
                  AV.val (Value.tuple #[]), AV.val (Value.tuple #[]), AV.val (Value.tuple #[]), AV.val (Value.tuple #[]),
                  AV.val (Value.tuple #[]), AV.val (Value.tuple #[])],
              ob :=
                [(0,
                    AO.box
                      [AV.rsl [CK.str] a, AV.rsl [CK.str] b, AV.rsl [CK.int IntKind.i64, CK.int IntKind.i64, CK.str] c])],
              nx := 1000000, ps := [] }))
        False)
      (br (s == 0)
        (br (decide (0 ≤ i ∧ i < (↑a.length : Int)))
          (R (some { av := AV.val (Value.string (a.getD i.toNat (edflt [CK.str])).fst), obs := [], outs := [] })) False)
        (br (s == 1)
          (br (decide (0 ≤ i ∧ i < (↑b.length : Int)))
            (R (some { av := AV.val (Value.string (b.getD i.toNat (edflt [CK.str])).fst), obs := [], outs := [] })) False)
          False))) := by kernel_rfl
theorem h100 : G1Ok Try.prog 100 g99 := by
  intro args obs k h
  unfold g99 at h
  split at h
  · rename_i k a b c s i
    obtain ⟨hs, hq, h⟩ := brb2 h
    rw [Bool.and_eq_true, decide_eq_true_eq, decide_eq_true_eq] at hq
    have hs' := hs
    simp only [secOk, Bool.and_eq_true, decide_eq_true_eq] at hs'
    refine ⟨_, ctr_fn ok0 hg100 Try.func100 (by kernel_rfl) (by kernel_rfl) (by kernel_rfl) fun C => ?_, h⟩
    rw [e100]
    refine loopDown okf100 hg100 (fun j => st100 a b c s i j) c.length (fun q => lkL c s i c.length = lkL c s i q) (fun N h0 => ?_) (fun N q hq' hI next => ?_) _ (wrap_id (by omega) (by omega)) rfl
    · show evP E100 G100 _ (lp100 2) (st100 a b c s i (-1)) (rk100 _ _ 2 _)
      rw [b100]
      have e : rdD a b c s i = sideAt a b s i := by
        unfold rdD
        rw [h0]
        rfl
      refine br_no (by omega) (br_intro (fun h1 => br_yes ⟨by omega, by omega⟩ ?_) (fun h1 => br_intro (fun h2 => br_yes ⟨by omega, by omega⟩ ?_) (fun h2 => ?_)))
      · show _ = _
        rw [e]
        unfold sideAt
        rw [h1]
      · show _ = _
        rw [e]
        unfold sideAt
        rw [h1]
      · simp at h1 h2
        omega
    · show evP E100 G100 _ (lp100 2) (st100 a b c s i q) (rk100 _ _ 2 _)
      rw [b100, Int.toNat_natCast, wrap_id (n := (q : Int) - 1) (by omega) (by omega)]
      have miss : hitL (c.getD q (edflt kl)) s i = false → N (st100 a b c s i ((q : Int) - 1)) := fun h1 => next (by
        rw [hI]
        show (match hitL (c.getD q (edflt kl)) s i with | true => some (c.getD q (edflt kl)).2.2.1 | false => lkL c s i q) = _
        rw [h1])
      refine br_yes (by omega) (br_yes ⟨by omega, by omega⟩ (br_intro (fun h1 => id (br_intro (fun h2 => id ?_) (fun h2 => miss ?_))) (fun h1 => miss ?_)))
      · show _ = _
        have : lkL c s i (q + 1) = some (c.getD q (edflt kl)).2.2.1 := by
          show (match hitL (c.getD q (edflt kl)) s i with | true => some (c.getD q (edflt kl)).2.2.1 | false => lkL c s i q) = _
          unfold hitL
          rw [h1, h2]
          rfl
        unfold rdD
        rw [hI, this]
      · unfold hitL
        rw [h2, Bool.and_false]
      · unfold hitL
        rw [h1]
        rfl
  · exact h.elim
noncomputable def E50 : Env := E0.of Try.f50
noncomputable def G50 : Gk := gk [(44, g45), (91, g91), (99, g99)]
noncomputable def lp50 (n : Nat) : Code := (loopOf n (codeOf Try.f50)).getD .skip
noncomputable def ct50 (L : Lp) (R : Option Res → Prop) (n : Nat) : Kt := contOf E50 G50 L n (codeOf Try.f50) (endK E50 Try.f50.results.toList R)
noncomputable def rk50 (L : Lp) (R : Option Res → Prop) (n : Nat) (N : St → Prop) : Kt := rk (jof E50 (lp50 n)) N (ct50 L R n)
noncomputable def LOOP50 (L : Lp) (R : Option Res → Prop) (n : Nat) (st : St) : Prop := L (lp50 n) st (ct50 L R n)
theorem hg50 : HG Try.prog G50 := (hg_cons h44 (hg_cons h91 (hg_cons h99 hg_nil)))
theorem okf50 : Ok Try.prog E50 := ok0.of Try.f50
theorem e50 (L : Lp) (R : Option Res → Prop) (a b : List (Elem ks)) (c : List (Elem kl)) (s i : Int) : (bodyP E0 G50 L Try.f50 [.agg [.rsl ks a, .rsl ks b, .rsl kl c], .val (.int .i64 s), .val (.int .i64 i)] [] R) = (
    br (smD a b c)
      (br (!okD a b c)
        (R
          (some { av := AV.tup [AV.val (Value.string { data := #[] }), AV.val (Value.bool false)], obs := [], outs := [] }))
        (br (!(secOk a.length s i && true))
          (R
            (some
              { av := AV.tup [AV.val (Value.string { data := #[] }), AV.val (Value.bool false)], obs := [], outs := [] }))
          (br (secOk a.length s i && (decide (b.length = a.length) && decide (c.length ≤ 1048576)))
            (R
              (some
                { av := AV.tup [AV.val (Value.string (rdD a b c s i)), AV.val (Value.bool true)], obs := [], outs := [] }))
            False)))
      False) := by kernel_rfl
theorem okD_b {a b : List (Elem ks)} {c : List (Elem kl)} (h : okD a b c = true) : b.length = a.length ∧ c.length ≤ 600 ∧ a.length ≤ 120 := by
  simp only [okD, Bool.and_eq_true, decide_eq_true_eq] at h
  exact ⟨h.1.1.1.1.2, h.1.1.1.2, h.1.1.1.1.1.2⟩
def g50 : G1
  | [.agg [.rsl [.str] a, .rsl [.str] b, .rsl [.int .i64, .int .i64, .str] c], .val (.int .i64 s), .val (.int .i64 i)], [], k =>
    br (smD a b c) (k ⟨.tup [.val (.string (match okD a b c && secOk a.length s i with | true => rdD a b c s i | false => ByteArray.empty)), .val (.bool (okD a b c && secOk a.length s i))], [], []⟩) False
  | _, _, _ => False
theorem h50 : G1Ok Try.prog 50 g50 := by
  intro args obs k h
  unfold g50 at h
  split at h
  · rename_i k a b c s i
    obtain ⟨hp, h⟩ := br_and h
    refine ⟨_, ctr_fn ok0 hg50 Try.func50 (by kernel_rfl) (by kernel_rfl) (by kernel_rfl) fun C => ?_, h⟩
    rw [e50]
    refine br_t hp (br_not (fun h1 => ?_) (fun h1 => br_not (fun h2 => ?_) (fun h2 => br_t ?_ ?_)))
    · show _ = _
      rw [h1]
      rfl
    · rw [Bool.and_true] at h2
      show _ = _
      rw [h2, Bool.and_false]
      rfl
    · rw [Bool.and_true] at h2
      obtain ⟨q1, q2, q3⟩ := okD_b h1
      rw [h2, q1]
      simp
      omega
    · rw [Bool.and_true] at h2
      show _ = _
      rw [h1, h2]
      rfl
  · exact h.elim
noncomputable def E51 : Env := E0.of Try.f51
noncomputable def G51 : Gk := gk [(45, g45), (96, g96), (100, g99)]
noncomputable def lp51 (n : Nat) : Code := (loopOf n (codeOf Try.f51)).getD .skip
noncomputable def ct51 (L : Lp) (R : Option Res → Prop) (n : Nat) : Kt := contOf E51 G51 L n (codeOf Try.f51) (endK E51 Try.f51.results.toList R)
noncomputable def rk51 (L : Lp) (R : Option Res → Prop) (n : Nat) (N : St → Prop) : Kt := rk (jof E51 (lp51 n)) N (ct51 L R n)
noncomputable def LOOP51 (L : Lp) (R : Option Res → Prop) (n : Nat) (st : St) : Prop := L (lp51 n) st (ct51 L R n)
theorem hg51 : HG Try.prog G51 := (hg_cons h45 (hg_cons h96 (hg_cons h100 hg_nil)))
theorem okf51 : Ok Try.prog E51 := ok0.of Try.f51
theorem e51 (L : Lp) (R : Option Res → Prop) (a b : List (Elem ks)) (c : List (Elem kl)) (s i : Int) : (bodyP E0 G51 L Try.f51 [.agg [.rsl ks a, .rsl ks b, .rsl kl c], .val (.int .i64 s), .val (.int .i64 i)] [] R) = (
    br (smD a b c)
      (br (!okD a b c)
        (R
          (some { av := AV.tup [AV.val (Value.string { data := #[] }), AV.val (Value.bool false)], obs := [], outs := [] }))
        (br (decide (a.length ≤ 1048576))
          (br (!secOk a.length s i)
            (R
              (some
                { av := AV.tup [AV.val (Value.string { data := #[] }), AV.val (Value.bool false)], obs := [], outs := [] }))
            (br (secOk a.length s i && (decide (b.length = a.length) && decide (c.length ≤ 1048576)))
              (R
                (some
                  { av := AV.tup [AV.val (Value.string (rdD a b c s i)), AV.val (Value.bool true)], obs := [],
                    outs := [] }))
              False))
          False))
      False) := by kernel_rfl
theorem h51 : G1Ok Try.prog 51 g50 := by
  intro args obs k h
  unfold g50 at h
  split at h
  · rename_i k a b c s i
    obtain ⟨hp, h⟩ := br_and h
    refine ⟨_, ctr_fn ok0 hg51 Try.func51 (by kernel_rfl) (by kernel_rfl) (by kernel_rfl) fun C => ?_, h⟩
    rw [e51]
    refine br_t hp (br_not (fun h1 => ?_) (fun h1 => br_yes ?_ (br_not (fun h2 => ?_) (fun h2 => br_t ?_ ?_))))
    · show _ = _
      rw [h1]
      rfl
    · have := okD_b h1
      omega
    · show _ = _
      rw [h2, Bool.and_false]
      rfl
    · obtain ⟨q1, q2, q3⟩ := okD_b h1
      rw [h2, q1]
      simp
      omega
    · show _ = _
      rw [h1, h2]
      rfl
  · exact h.elim
noncomputable def E12 : Env := E0.of Try.f12
noncomputable def G12 : Gk := gk [(37, g37), (40, g40), (42, g42), (50, g50), (51, g50)]
noncomputable def lp12 (n : Nat) : Code := (loopOf n (codeOf Try.f12)).getD .skip
noncomputable def ct12 (L : Lp) (R : Option Res → Prop) (n : Nat) : Kt := contOf E12 G12 L n (codeOf Try.f12) (endK E12 Try.f12.results.toList R)
noncomputable def rk12 (L : Lp) (R : Option Res → Prop) (n : Nat) (N : St → Prop) : Kt := rk (jof E12 (lp12 n)) N (ct12 L R n)
noncomputable def LOOP12 (L : Lp) (R : Option Res → Prop) (n : Nat) (st : St) : Prop := L (lp12 n) st (ct12 L R n)
theorem hg12 : HG Try.prog G12 := (hg_cons h37 (hg_cons h40 (hg_cons h42 (hg_cons h50 (hg_cons h51 hg_nil)))))
theorem okf12 : Ok Try.prog E12 := ok0.of Try.f12
theorem e12 (L : Lp) (R : Option Res → Prop) (a b : List (Elem ks)) (c : List (Elem kl)) (s i : Int) : (bodyP E0 G12 L Try.f12 [.agg [.rsl ks a, .rsl ks b, .rsl kl c], .val (.int .i64 s), .val (.int .i64 i)] [] R) = (
    br (inD a b c && true)
      (br (decide (szR 1048576 (szD a b c) < 0)) (R (some { av := AV.val (Value.bool true), obs := [], outs := [] }))
        (br (smD a b c)
          (br (smD a b c)
            (br (smD a b c)
              (br (smD a b c)
                (br
                  (!strEq
                      (match okD a b c && secOk a.length s i with
                      | true => rdD a b c s i
                      | false => ByteArray.empty)
                      (match okD a b c && secOk a.length s i with
                      | true => rdD a b c s i
                      | false => ByteArray.empty))
                  (R (some { av := AV.val (Value.bool false), obs := [], outs := [] }))
                  (br (!(okD a b c && secOk a.length s i) == (okD a b c && secOk a.length s i))
                    (R (some { av := AV.val (Value.bool false), obs := [], outs := [] }))
                    (br (smD a b c)
                      (br (smD a b c)
                        (br (!eqD a b c a b c) (R (some { av := AV.val (Value.bool false), obs := [], outs := [] }))
                          (R (some { av := AV.val (Value.bool true), obs := [], outs := [] })))
                        False)
                      False)))
                False)
              False)
            False)
          False))
      False) := by kernel_rfl
theorem strEq_self (t : ByteArray) : strEq t t = true := by simp [strEq]
theorem c12 (a b : List (Elem ks)) (c : List (Elem kl)) (s i : Int) (h : dOk a b c) : Ctr Try.prog 12 [.agg [.rsl ks a, .rsl ks b, .rsl kl c], .val (.int .i64 s), .val (.int .i64 i)] [] ⟨.val (.bool true), [], []⟩ := by
  refine ctr_fn ok0 hg12 Try.func12 (by kernel_rfl) (by kernel_rfl) (by kernel_rfl) fun C => ?_
  rw [e12, inD_of h, eqD_self]
  refine br_t rfl (br_dec (fun _ => rfl) (fun h1 => ?_))
  have d1 := smD_of (by omega) h1
  refine br_t d1 (br_t d1 (br_t d1 (br_t d1 (br_not (fun h => ?_) (fun _ => br_intro (fun h => ?_) (fun _ => br_t d1 (br_t d1 (br_not (fun h => by cases h) (fun _ => rfl)))))))))
  · rw [strEq_self] at h
    cases h
  · simp at h
end Go.Proofs.Ytjhjhkphcemcmaa.Ev
