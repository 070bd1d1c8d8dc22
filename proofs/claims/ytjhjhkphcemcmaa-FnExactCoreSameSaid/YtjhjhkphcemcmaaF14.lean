/- The law of BlkRead. -/
import Derived.Test.YtjhjhkphcemcmaaF13
namespace Go.Proofs.Ytjhjhkphcemcmaa.Ev
open Go
set_option linter.unusedVariables false
set_option linter.unusedSimpArgs false
set_option maxRecDepth 100000
noncomputable def E54 : Env := E0.of Try.f54
noncomputable def G54 : Gk := gk [(18, g20), (52, g53), (99, g99)]
noncomputable def lp54 (n : Nat) : Code := (loopOf n (codeOf Try.f54)).getD .skip
noncomputable def ct54 (L : Lp) (R : Option Res → Prop) (n : Nat) : Kt := contOf E54 G54 L n (codeOf Try.f54) (endK E54 Try.f54.results.toList R)
noncomputable def rk54 (L : Lp) (R : Option Res → Prop) (n : Nat) (N : St → Prop) : Kt := rk (jof E54 (lp54 n)) N (ct54 L R n)
noncomputable def LOOP54 (L : Lp) (R : Option Res → Prop) (n : Nat) (st : St) : Prop := L (lp54 n) st (ct54 L R n)
theorem hg54 : HG Try.prog G54 := (hg_cons h18 (hg_cons h52 (hg_cons h99 hg_nil)))
theorem okf54 : Ok Try.prog E54 := ok0.of Try.f54
theorem e54 (L : Lp) (R : Option Res → Prop) (a b : List (Elem ks)) (c : List (Elem kl)) (x y z : Int) : (bodyP E0 G54 L Try.f54 [.agg [.rsl ks a, .rsl ks b, .rsl kl c], .agg [.val (.int .i64 x), .val (.int .i64 y), .val (.int .i64 z)]] [] R) = (
    br (ptrOk x y z)
      (br (x == 0)
        (R
          (some
            { av := AV.tup [AV.val (Value.string { data := #[] }), AV.val (Value.int IntKind.i64 1)], obs := [],
              outs := [] }))
        (LOOP54 L R 4
          {
            tm :=
              [AV.agg [AV.rsl [CK.str] a, AV.rsl [CK.str] b, AV.rsl [CK.int IntKind.i64, CK.int IntKind.i64, CK.str] c],
                AV.agg
                  [AV.val (Value.int IntKind.i64 x), AV.val (Value.int IntKind.i64 y), AV.val (Value.int IntKind.i64 z)],
                AV.ptr 0 0, AV.ptr 1 0, AV.val (Value.string { data := #[] }), AV.val (Value.int IntKind.i64 0),
                AV.val (Value.int IntKind.i64 0),
                AV.agg
                  [AV.val (Value.int IntKind.i64 x), AV.val (Value.int IntKind.i64 y), AV.val (Value.int IntKind.i64 z)],
                AV.val (Value.bool (ptrOk x y z)), AV.val (Value.bool true), AV.ptr 1 0, AV.val (Value.int IntKind.i64 x),
                AV.val (Value.bool (x == 0)), AV.val (Value.bool (x == 0)), AV.junk, AV.junk, AV.junk, AV.junk, AV.junk,
                AV.junk, AV.junk, AV.junk, AV.junk, AV.junk, AV.junk, AV.junk, AV.junk],
            ob :=
              [(0,
                  AO.box [AV.rsl [CK.str] a, AV.rsl [CK.str] b, AV.rsl [CK.int IntKind.i64, CK.int IntKind.i64, CK.str] c]),
                (1,
                  AO.box
                    [AV.val (Value.int IntKind.i64 x), AV.val (Value.int IntKind.i64 y),
                      AV.val (Value.int IntKind.i64 z)])],
            nx := 1000000, ps := [] }))
      (LOOP54 L R 4
        {
          tm :=
            [AV.agg [AV.rsl [CK.str] a, AV.rsl [CK.str] b, AV.rsl [CK.int IntKind.i64, CK.int IntKind.i64, CK.str] c],
              AV.agg [AV.val (Value.int IntKind.i64 x), AV.val (Value.int IntKind.i64 y), AV.val (Value.int IntKind.i64 z)],
              AV.ptr 0 0, AV.ptr 1 0, AV.val (Value.string { data := #[] }), AV.val (Value.int IntKind.i64 0),
              AV.val (Value.int IntKind.i64 0),
              AV.agg [AV.val (Value.int IntKind.i64 x), AV.val (Value.int IntKind.i64 y), AV.val (Value.int IntKind.i64 z)],
              AV.val (Value.bool (ptrOk x y z)), AV.val (Value.bool false), AV.val (Value.tuple #[]),
              AV.val (Value.tuple #[]), AV.val (Value.tuple #[]), AV.val (Value.bool false), AV.junk, AV.junk, AV.junk,
              AV.junk, AV.junk, AV.junk, AV.junk, AV.junk, AV.junk, AV.junk, AV.junk, AV.junk, AV.junk],
          ob :=
            [(0, AO.box [AV.rsl [CK.str] a, AV.rsl [CK.str] b, AV.rsl [CK.int IntKind.i64, CK.int IntKind.i64, CK.str] c]),
              (1,
                AO.box
                  [AV.val (Value.int IntKind.i64 x), AV.val (Value.int IntKind.i64 y), AV.val (Value.int IntKind.i64 z)])],
          nx := 1000000, ps := [] })) := by kernel_rfl
def st54a (a b : List (Elem ks)) (c : List (Elem kl)) (x y z : Int) (i : Int) : St :=
  ⟨[AV.agg [AV.rsl [CK.str] a, AV.rsl [CK.str] b, AV.rsl [CK.int IntKind.i64, CK.int IntKind.i64, CK.str] c], AV.agg [AV.val (Value.int IntKind.i64 x), AV.val (Value.int IntKind.i64 y), AV.val (Value.int IntKind.i64 z)], AV.ptr 0 0, AV.ptr 1 0, AV.val (Value.string { data := #[] }), AV.val (Value.int IntKind.i64 0), .val (.int .i64 i), AV.agg [AV.val (Value.int IntKind.i64 x), AV.val (Value.int IntKind.i64 y), AV.val (Value.int IntKind.i64 z)], AV.val (Value.bool (ptrOk x y z)), AV.val (Value.bool true), AV.ptr 1 0, AV.val (Value.int IntKind.i64 x), AV.val (Value.bool (x == 0)), AV.val (Value.bool (x == 0)), AV.junk, AV.junk, AV.junk, AV.junk, AV.junk, AV.junk, AV.junk, AV.junk, AV.junk, AV.junk, AV.junk, AV.junk, AV.junk],
    [(0, AO.box [AV.rsl [CK.str] a, AV.rsl [CK.str] b, AV.rsl [CK.int IntKind.i64, CK.int IntKind.i64, CK.str] c]), (1, AO.box [AV.val (Value.int IntKind.i64 x), AV.val (Value.int IntKind.i64 y), AV.val (Value.int IntKind.i64 z)])], 1000000, []⟩
theorem b54a_0 (L : Lp) (R : Option Res → Prop) (N : St → Prop) (a b : List (Elem ks)) (c : List (Elem kl)) (x y z : Int) : (evP E54 G54 L (lp54 4) (st54a a b c x y z 0) (rk54 L R 4 N)) = (
    br (smD a b c)
      (br (sideD a b c x y z 0)
        (br (secOk a.length 0 x && (decide (b.length = a.length) && decide (c.length ≤ 1048576)))
          (R
            (some
              { av := AV.tup [AV.val (Value.string (rdD a b c 0 x)), AV.val (Value.int IntKind.i64 0)], obs := [],
                outs := [] }))
          False)
        (N
          {
            tm :=
              [AV.agg [AV.rsl [CK.str] a, AV.rsl [CK.str] b, AV.rsl [CK.int IntKind.i64, CK.int IntKind.i64, CK.str] c],
                AV.agg
                  [AV.val (Value.int IntKind.i64 x), AV.val (Value.int IntKind.i64 y), AV.val (Value.int IntKind.i64 z)],
                AV.ptr 0 0, AV.ptr 1 0, AV.val (Value.string { data := #[] }), AV.val (Value.int IntKind.i64 0),
                AV.val (Value.int IntKind.i64 1),
                AV.agg
                  [AV.val (Value.int IntKind.i64 x), AV.val (Value.int IntKind.i64 y), AV.val (Value.int IntKind.i64 z)],
                AV.val (Value.bool (ptrOk x y z)), AV.val (Value.bool true), AV.ptr 1 0, AV.val (Value.int IntKind.i64 x),
                AV.val (Value.bool (x == 0)), AV.val (Value.bool (x == 0)), AV.junk, AV.junk, AV.junk, AV.junk, AV.junk,
                AV.junk, AV.junk, AV.junk, AV.junk, AV.junk, AV.junk, AV.junk, AV.junk],
            ob :=
              [(0,
                  AO.box [AV.rsl [CK.str] a, AV.rsl [CK.str] b, AV.rsl [CK.int IntKind.i64, CK.int IntKind.i64, CK.str] c]),
                (1,
                  AO.box
                    [AV.val (Value.int IntKind.i64 x), AV.val (Value.int IntKind.i64 y),
                      AV.val (Value.int IntKind.i64 z)])],
            nx := 1000000, ps := [] }))
      False) := by kernel_rfl
theorem b54a_1 (L : Lp) (R : Option Res → Prop) (N : St → Prop) (a b : List (Elem ks)) (c : List (Elem kl)) (x y z : Int) : (evP E54 G54 L (lp54 4) (st54a a b c x y z 1) (rk54 L R 4 N)) = (
    br (smD a b c)
      (br (sideD a b c x y z 1)
        (br (secOk a.length 1 x && (decide (b.length = a.length) && decide (c.length ≤ 1048576)))
          (R
            (some
              { av := AV.tup [AV.val (Value.string (rdD a b c 1 x)), AV.val (Value.int IntKind.i64 0)], obs := [],
                outs := [] }))
          False)
        (N
          {
            tm :=
              [AV.agg [AV.rsl [CK.str] a, AV.rsl [CK.str] b, AV.rsl [CK.int IntKind.i64, CK.int IntKind.i64, CK.str] c],
                AV.agg
                  [AV.val (Value.int IntKind.i64 x), AV.val (Value.int IntKind.i64 y), AV.val (Value.int IntKind.i64 z)],
                AV.ptr 0 0, AV.ptr 1 0, AV.val (Value.string { data := #[] }), AV.val (Value.int IntKind.i64 0),
                AV.val (Value.int IntKind.i64 2),
                AV.agg
                  [AV.val (Value.int IntKind.i64 x), AV.val (Value.int IntKind.i64 y), AV.val (Value.int IntKind.i64 z)],
                AV.val (Value.bool (ptrOk x y z)), AV.val (Value.bool true), AV.ptr 1 0, AV.val (Value.int IntKind.i64 x),
                AV.val (Value.bool (x == 0)), AV.val (Value.bool (x == 0)), AV.junk, AV.junk, AV.junk, AV.junk, AV.junk,
                AV.junk, AV.junk, AV.junk, AV.junk, AV.junk, AV.junk, AV.junk, AV.junk],
            ob :=
              [(0,
                  AO.box [AV.rsl [CK.str] a, AV.rsl [CK.str] b, AV.rsl [CK.int IntKind.i64, CK.int IntKind.i64, CK.str] c]),
                (1,
                  AO.box
                    [AV.val (Value.int IntKind.i64 x), AV.val (Value.int IntKind.i64 y),
                      AV.val (Value.int IntKind.i64 z)])],
            nx := 1000000, ps := [] }))
      False) := by kernel_rfl
theorem b54a_2 (L : Lp) (R : Option Res → Prop) (N : St → Prop) (a b : List (Elem ks)) (c : List (Elem kl)) (x y z : Int) : (evP E54 G54 L (lp54 4) (st54a a b c x y z 2) (rk54 L R 4 N)) = (
    R
      (some
        { av := AV.tup [AV.val (Value.string { data := #[] }), AV.val (Value.int IntKind.i64 2)], obs := [], outs := [] })) := by kernel_rfl
def st54b (a b : List (Elem ks)) (c : List (Elem kl)) (x y z : Int) (i : Int) : St :=
  ⟨[AV.agg [AV.rsl [CK.str] a, AV.rsl [CK.str] b, AV.rsl [CK.int IntKind.i64, CK.int IntKind.i64, CK.str] c], AV.agg [AV.val (Value.int IntKind.i64 x), AV.val (Value.int IntKind.i64 y), AV.val (Value.int IntKind.i64 z)], AV.ptr 0 0, AV.ptr 1 0, AV.val (Value.string { data := #[] }), AV.val (Value.int IntKind.i64 0), .val (.int .i64 i), AV.agg [AV.val (Value.int IntKind.i64 x), AV.val (Value.int IntKind.i64 y), AV.val (Value.int IntKind.i64 z)], AV.val (Value.bool (ptrOk x y z)), AV.val (Value.bool false), AV.val (Value.tuple #[]), AV.val (Value.tuple #[]), AV.val (Value.tuple #[]), AV.val (Value.bool false), AV.junk, AV.junk, AV.junk, AV.junk, AV.junk, AV.junk, AV.junk, AV.junk, AV.junk, AV.junk, AV.junk, AV.junk, AV.junk],
    [(0, AO.box [AV.rsl [CK.str] a, AV.rsl [CK.str] b, AV.rsl [CK.int IntKind.i64, CK.int IntKind.i64, CK.str] c]), (1, AO.box [AV.val (Value.int IntKind.i64 x), AV.val (Value.int IntKind.i64 y), AV.val (Value.int IntKind.i64 z)])], 1000000, []⟩
theorem b54b_0 (L : Lp) (R : Option Res → Prop) (N : St → Prop) (a b : List (Elem ks)) (c : List (Elem kl)) (x y z : Int) : (evP E54 G54 L (lp54 4) (st54b a b c x y z 0) (rk54 L R 4 N)) = (
    br (smD a b c)
      (br (sideD a b c x y z 0)
        (br (secOk a.length 0 x && (decide (b.length = a.length) && decide (c.length ≤ 1048576)))
          (R
            (some
              { av := AV.tup [AV.val (Value.string (rdD a b c 0 x)), AV.val (Value.int IntKind.i64 0)], obs := [],
                outs := [] }))
          False)
        (N
          {
            tm :=
              [AV.agg [AV.rsl [CK.str] a, AV.rsl [CK.str] b, AV.rsl [CK.int IntKind.i64, CK.int IntKind.i64, CK.str] c],
                AV.agg
                  [AV.val (Value.int IntKind.i64 x), AV.val (Value.int IntKind.i64 y), AV.val (Value.int IntKind.i64 z)],
                AV.ptr 0 0, AV.ptr 1 0, AV.val (Value.string { data := #[] }), AV.val (Value.int IntKind.i64 0),
                AV.val (Value.int IntKind.i64 1),
                AV.agg
                  [AV.val (Value.int IntKind.i64 x), AV.val (Value.int IntKind.i64 y), AV.val (Value.int IntKind.i64 z)],
                AV.val (Value.bool (ptrOk x y z)), AV.val (Value.bool false), AV.val (Value.tuple #[]),
                AV.val (Value.tuple #[]), AV.val (Value.tuple #[]), AV.val (Value.bool false), AV.junk, AV.junk, AV.junk,
                AV.junk, AV.junk, AV.junk, AV.junk, AV.junk, AV.junk, AV.junk, AV.junk, AV.junk, AV.junk],
            ob :=
              [(0,
                  AO.box [AV.rsl [CK.str] a, AV.rsl [CK.str] b, AV.rsl [CK.int IntKind.i64, CK.int IntKind.i64, CK.str] c]),
                (1,
                  AO.box
                    [AV.val (Value.int IntKind.i64 x), AV.val (Value.int IntKind.i64 y),
                      AV.val (Value.int IntKind.i64 z)])],
            nx := 1000000, ps := [] }))
      False) := by kernel_rfl
theorem b54b_1 (L : Lp) (R : Option Res → Prop) (N : St → Prop) (a b : List (Elem ks)) (c : List (Elem kl)) (x y z : Int) : (evP E54 G54 L (lp54 4) (st54b a b c x y z 1) (rk54 L R 4 N)) = (
    br (smD a b c)
      (br (sideD a b c x y z 1)
        (br (secOk a.length 1 x && (decide (b.length = a.length) && decide (c.length ≤ 1048576)))
          (R
            (some
              { av := AV.tup [AV.val (Value.string (rdD a b c 1 x)), AV.val (Value.int IntKind.i64 0)], obs := [],
                outs := [] }))
          False)
        (N
          {
            tm :=
              [AV.agg [AV.rsl [CK.str] a, AV.rsl [CK.str] b, AV.rsl [CK.int IntKind.i64, CK.int IntKind.i64, CK.str] c],
                AV.agg
                  [AV.val (Value.int IntKind.i64 x), AV.val (Value.int IntKind.i64 y), AV.val (Value.int IntKind.i64 z)],
                AV.ptr 0 0, AV.ptr 1 0, AV.val (Value.string { data := #[] }), AV.val (Value.int IntKind.i64 0),
                AV.val (Value.int IntKind.i64 2),
                AV.agg
                  [AV.val (Value.int IntKind.i64 x), AV.val (Value.int IntKind.i64 y), AV.val (Value.int IntKind.i64 z)],
                AV.val (Value.bool (ptrOk x y z)), AV.val (Value.bool false), AV.val (Value.tuple #[]),
                AV.val (Value.tuple #[]), AV.val (Value.tuple #[]), AV.val (Value.bool false), AV.junk, AV.junk, AV.junk,
                AV.junk, AV.junk, AV.junk, AV.junk, AV.junk, AV.junk, AV.junk, AV.junk, AV.junk, AV.junk],
            ob :=
              [(0,
                  AO.box [AV.rsl [CK.str] a, AV.rsl [CK.str] b, AV.rsl [CK.int IntKind.i64, CK.int IntKind.i64, CK.str] c]),
                (1,
                  AO.box
                    [AV.val (Value.int IntKind.i64 x), AV.val (Value.int IntKind.i64 y),
                      AV.val (Value.int IntKind.i64 z)])],
            nx := 1000000, ps := [] }))
      False) := by kernel_rfl
theorem b54b_2 (L : Lp) (R : Option Res → Prop) (N : St → Prop) (a b : List (Elem ks)) (c : List (Elem kl)) (x y z : Int) : (evP E54 G54 L (lp54 4) (st54b a b c x y z 2) (rk54 L R 4 N)) = (
    R
      (some
        { av := AV.tup [AV.val (Value.string { data := #[] }), AV.val (Value.int IntKind.i64 2)], obs := [], outs := [] })) := by kernel_rfl
def rdBlk (a b : List (Elem ks)) (c : List (Elem kl)) (x y z : Int) : ByteArray × Int := match ptrOk x y z && x == 0 with
  | true => (ByteArray.empty, 1)
  | false => match sideD a b c x y z 0 with
    | true => (rdD a b c 0 x, 0)
    | false => match sideD a b c x y z 1 with
      | true => (rdD a b c 1 x, 0)
      | false => (ByteArray.empty, 2)
def g54 : G1
  | [.agg [.rsl [.str] a, .rsl [.str] b, .rsl [.int .i64, .int .i64, .str] c], .agg [.val (.int .i64 x), .val (.int .i64 y), .val (.int .i64 z)]], [], k =>
    br (smD a b c) (k ⟨.tup [.val (.string (rdBlk a b c x y z).1), .val (.int .i64 (rdBlk a b c x y z).2)], [], []⟩) False
  | _, _, _ => False
theorem side_pre {a b : List (Elem ks)} {c : List (Elem kl)} {x y z s : Int} (h : sideD a b c x y z s = true) : okD a b c = true ∧ (secOk a.length s x && (decide (b.length = a.length) && decide (c.length ≤ 1048576))) = true := by
  unfold sideD hasD at h
  simp only [Bool.and_eq_true] at h
  obtain ⟨⟨h1, h2⟩, h3, h4⟩ := h
  obtain ⟨q1, q2, q3⟩ := okD_b h1
  refine ⟨h1, ?_⟩
  rw [h3, q1]
  simp
  omega
theorem h54 : G1Ok Try.prog 54 g54 := by
  intro args obs k h
  unfold g54 at h
  split at h
  · rename_i k a b c x y z
    obtain ⟨hp, h⟩ := br_and h
    refine ⟨_, ctr_fn ok0 hg54 Try.func54 (by kernel_rfl) (by kernel_rfl) (by kernel_rfl) fun C => ?_, h⟩
    rw [e54]
    refine br_intro (fun h1 => br_intro (fun h2 => ?_) (fun h2 => ?_)) (fun h1 => ?_)
    · show _ = _
      unfold rdBlk
      rw [h1, h2]
      rfl
    · have e0 : (ptrOk x y z && x == 0) = false := by rw [h1, h2]; rfl
      refine loopUp okf54 hg54 (α := Unit) (fun i _ => st54a a b c x y z i) 2 (fun i _ => (0 < i → sideD a b c x y z 0 = false) ∧ (1 < i → sideD a b c x y z 1 = false)) (fun N i _ hi ⟨h3, h4⟩ next => ?_) () ⟨by omega, by omega⟩
      have cs : i = 0 ∨ i = 1 ∨ i = 2 := by omega
      rcases cs with rfl | rfl | rfl
      · show evP E54 G54 _ (lp54 4) (st54a a b c x y z 0) (rk54 _ _ 4 _)
        rw [b54a_0]
        refine br_t hp (br_intro (fun h5 => br_t (side_pre h5).2 ?_) (fun h5 => next (by omega) () ⟨fun _ => h5, by omega⟩))
        show _ = _
        unfold rdBlk
        rw [e0, h5]
      · show evP E54 G54 _ (lp54 4) (st54a a b c x y z 1) (rk54 _ _ 4 _)
        rw [b54a_1]
        refine br_t hp (br_intro (fun h5 => br_t (side_pre h5).2 ?_) (fun h5 => next (by omega) () ⟨fun _ => h3 (by omega), fun _ => h5⟩))
        show _ = _
        unfold rdBlk
        rw [e0, h3 (by omega), h5]
      · show evP E54 G54 _ (lp54 4) (st54a a b c x y z 2) (rk54 _ _ 4 _)
        rw [b54a_2]
        show _ = _
        unfold rdBlk
        rw [e0, h3 (by omega), h4 (by omega)]
        rfl
    · have e0 : (ptrOk x y z && x == 0) = false := by rw [h1]; rfl
      refine loopUp okf54 hg54 (α := Unit) (fun i _ => st54b a b c x y z i) 2 (fun i _ => (0 < i → sideD a b c x y z 0 = false) ∧ (1 < i → sideD a b c x y z 1 = false)) (fun N i _ hi ⟨h3, h4⟩ next => ?_) () ⟨by omega, by omega⟩
      have cs : i = 0 ∨ i = 1 ∨ i = 2 := by omega
      rcases cs with rfl | rfl | rfl
      · show evP E54 G54 _ (lp54 4) (st54b a b c x y z 0) (rk54 _ _ 4 _)
        rw [b54b_0]
        refine br_t hp (br_intro (fun h5 => br_t (side_pre h5).2 ?_) (fun h5 => next (by omega) () ⟨fun _ => h5, by omega⟩))
        show _ = _
        unfold rdBlk
        rw [e0, h5]
      · show evP E54 G54 _ (lp54 4) (st54b a b c x y z 1) (rk54 _ _ 4 _)
        rw [b54b_1]
        refine br_t hp (br_intro (fun h5 => br_t (side_pre h5).2 ?_) (fun h5 => next (by omega) () ⟨fun _ => h3 (by omega), fun _ => h5⟩))
        show _ = _
        unfold rdBlk
        rw [e0, h3 (by omega), h5]
      · show evP E54 G54 _ (lp54 4) (st54b a b c x y z 2) (rk54 _ _ 4 _)
        rw [b54b_2]
        show _ = _
        unfold rdBlk
        rw [e0, h3 (by omega), h4 (by omega)]
        rfl
  · exact h.elim
noncomputable def E55 : Env := E0.of Try.f55
noncomputable def G55 : Gk := gk [(45, g45), (102, g102), (103, g103), (100, g99)]
noncomputable def lp55 (n : Nat) : Code := (loopOf n (codeOf Try.f55)).getD .skip
noncomputable def ct55 (L : Lp) (R : Option Res → Prop) (n : Nat) : Kt := contOf E55 G55 L n (codeOf Try.f55) (endK E55 Try.f55.results.toList R)
noncomputable def rk55 (L : Lp) (R : Option Res → Prop) (n : Nat) (N : St → Prop) : Kt := rk (jof E55 (lp55 n)) N (ct55 L R n)
noncomputable def LOOP55 (L : Lp) (R : Option Res → Prop) (n : Nat) (st : St) : Prop := L (lp55 n) st (ct55 L R n)
theorem hg55 : HG Try.prog G55 := (hg_cons h45 (hg_cons h102 (hg_cons h103 (hg_cons h100 hg_nil))))
theorem okf55 : Ok Try.prog E55 := ok0.of Try.f55
theorem e55 (L : Lp) (R : Option Res → Prop) (a b : List (Elem ks)) (c : List (Elem kl)) (x y z : Int) : (bodyP E0 G55 L Try.f55 [.agg [.rsl ks a, .rsl ks b, .rsl kl c], .agg [.val (.int .i64 x), .val (.int .i64 y), .val (.int .i64 z)]] [] R) = (
    br
      (elemEq
        [CK.int IntKind.i64, CK.int IntKind.i64, CK.int IntKind.i64]
        (x, y, z, ()) (0, 0, 0, ()))
      (R
        (some
          { av := AV.tup [AV.val (Value.string { data := #[] }), AV.val (Value.int IntKind.i64 1)], obs := [],
            outs := [] }))
      (br (smD a b c)
        (br (okD a b c)
          (br (realP x y z)
            (LOOP55 L R 5
              {
                tm :=
                  [AV.agg [AV.rsl [CK.str] a, AV.rsl [CK.str] b, AV.rsl [CK.int IntKind.i64, CK.int IntKind.i64, CK.str] c],
                    AV.agg
                      [AV.val (Value.int IntKind.i64 x), AV.val (Value.int IntKind.i64 y),
                        AV.val (Value.int IntKind.i64 z)],
                    AV.ptr 0 0, AV.ptr 1 0, AV.val (Value.string { data := #[] }), AV.val (Value.int IntKind.i64 0),
                    AV.junk,
                    AV.agg
                      [AV.val (Value.int IntKind.i64 x), AV.val (Value.int IntKind.i64 y),
                        AV.val (Value.int IntKind.i64 z)],
                    AV.agg
                      [AV.val (Value.int IntKind.i64 0), AV.val (Value.int IntKind.i64 0),
                        AV.val (Value.int IntKind.i64 0)],
                    AV.val
                      (Value.bool
                        (elemEq
                          [CK.int IntKind.i64, CK.int IntKind.i64, CK.int IntKind.i64]
                          (x, y, z, ()) (0, 0, 0, ()))),
                    AV.agg
                      [AV.rsl [CK.str] a, AV.rsl [CK.str] b, AV.rsl [CK.int IntKind.i64, CK.int IntKind.i64, CK.str] c],
                    AV.val (Value.bool (okD a b c)), AV.val (Value.bool true),
                    AV.agg
                      [AV.val (Value.int IntKind.i64 x), AV.val (Value.int IntKind.i64 y),
                        AV.val (Value.int IntKind.i64 z)],
                    AV.val (Value.bool (realP x y z)), AV.val (Value.bool (realP x y z)), AV.val (Value.int IntKind.i64 0),
                    AV.junk, AV.junk, AV.junk, AV.junk, AV.junk, AV.junk, AV.junk, AV.junk, AV.junk, AV.junk, AV.junk,
                    AV.junk],
                ob :=
                  [(0,
                      AO.box
                        [AV.rsl [CK.str] a, AV.rsl [CK.str] b, AV.rsl [CK.int IntKind.i64, CK.int IntKind.i64, CK.str] c]),
                    (1,
                      AO.box
                        [AV.val (Value.int IntKind.i64 x), AV.val (Value.int IntKind.i64 y),
                          AV.val (Value.int IntKind.i64 z)])],
                nx := 1000000, ps := [] })
            (R
              (some
                { av := AV.tup [AV.val (Value.string { data := #[] }), AV.val (Value.int IntKind.i64 2)], obs := [],
                  outs := [] })))
          (R
            (some
              { av := AV.tup [AV.val (Value.string { data := #[] }), AV.val (Value.int IntKind.i64 2)], obs := [],
                outs := [] })))
        False)) := by kernel_rfl
def st55 (a b : List (Elem ks)) (c : List (Elem kl)) (x y z : Int) (i : Int) : St :=
  ⟨[AV.agg [AV.rsl [CK.str] a, AV.rsl [CK.str] b, AV.rsl [CK.int IntKind.i64, CK.int IntKind.i64, CK.str] c], AV.agg [AV.val (Value.int IntKind.i64 x), AV.val (Value.int IntKind.i64 y), AV.val (Value.int IntKind.i64 z)], AV.ptr 0 0, AV.ptr 1 0, AV.val (Value.string { data := #[] }), AV.val (Value.int IntKind.i64 0), AV.junk, AV.agg [AV.val (Value.int IntKind.i64 x), AV.val (Value.int IntKind.i64 y), AV.val (Value.int IntKind.i64 z)], AV.agg [AV.val (Value.int IntKind.i64 0), AV.val (Value.int IntKind.i64 0), AV.val (Value.int IntKind.i64 0)], AV.val (Value.bool (elemEq [CK.int IntKind.i64, CK.int IntKind.i64, CK.int IntKind.i64] (x, y, z, ()) (0, 0, 0, ()))), AV.agg [AV.rsl [CK.str] a, AV.rsl [CK.str] b, AV.rsl [CK.int IntKind.i64, CK.int IntKind.i64, CK.str] c], AV.val (Value.bool (okD a b c)), AV.val (Value.bool true), AV.agg [AV.val (Value.int IntKind.i64 x), AV.val (Value.int IntKind.i64 y), AV.val (Value.int IntKind.i64 z)], AV.val (Value.bool (realP x y z)), AV.val (Value.bool (realP x y z)), .val (.int .i64 i), AV.junk, AV.junk, AV.junk, AV.junk, AV.junk, AV.junk, AV.junk, AV.junk, AV.junk, AV.junk, AV.junk, AV.junk],
    [(0, AO.box [AV.rsl [CK.str] a, AV.rsl [CK.str] b, AV.rsl [CK.int IntKind.i64, CK.int IntKind.i64, CK.str] c]), (1, AO.box [AV.val (Value.int IntKind.i64 x), AV.val (Value.int IntKind.i64 y), AV.val (Value.int IntKind.i64 z)])], 1000000, []⟩
theorem b55_0 (L : Lp) (R : Option Res → Prop) (N : St → Prop) (a b : List (Elem ks)) (c : List (Elem kl)) (x y z : Int) : (evP E55 G55 L (lp55 5) (st55 a b c x y z 0) (rk55 L R 5 N)) = (
    br (okD a b c)
      (br (hasD a b c x y 0)
        (br (secOk a.length 0 x && (decide (b.length = a.length) && decide (c.length ≤ 1048576)))
          (R
            (some
              { av := AV.tup [AV.val (Value.string (rdD a b c 0 x)), AV.val (Value.int IntKind.i64 0)], obs := [],
                outs := [] }))
          False)
        (N
          {
            tm :=
              [AV.agg [AV.rsl [CK.str] a, AV.rsl [CK.str] b, AV.rsl [CK.int IntKind.i64, CK.int IntKind.i64, CK.str] c],
                AV.agg
                  [AV.val (Value.int IntKind.i64 x), AV.val (Value.int IntKind.i64 y), AV.val (Value.int IntKind.i64 z)],
                AV.ptr 0 0, AV.ptr 1 0, AV.val (Value.string { data := #[] }), AV.val (Value.int IntKind.i64 0), AV.junk,
                AV.agg
                  [AV.val (Value.int IntKind.i64 x), AV.val (Value.int IntKind.i64 y), AV.val (Value.int IntKind.i64 z)],
                AV.agg
                  [AV.val (Value.int IntKind.i64 0), AV.val (Value.int IntKind.i64 0), AV.val (Value.int IntKind.i64 0)],
                AV.val
                  (Value.bool
                    (elemEq [CK.int IntKind.i64, CK.int IntKind.i64, CK.int IntKind.i64] (x, y, z, ())
                      (OfNat.ofNat 0, OfNat.ofNat 0, OfNat.ofNat 0, ()))),
                AV.agg [AV.rsl [CK.str] a, AV.rsl [CK.str] b, AV.rsl [CK.int IntKind.i64, CK.int IntKind.i64, CK.str] c],
                AV.val (Value.bool (okD a b c)), AV.val (Value.bool true),
                AV.agg
                  [AV.val (Value.int IntKind.i64 x), AV.val (Value.int IntKind.i64 y), AV.val (Value.int IntKind.i64 z)],
                AV.val (Value.bool (realP x y z)), AV.val (Value.bool (realP x y z)), AV.val (Value.int IntKind.i64 1),
                AV.junk, AV.junk, AV.junk, AV.junk, AV.junk, AV.junk, AV.junk, AV.junk, AV.junk, AV.junk, AV.junk, AV.junk],
            ob :=
              [(0,
                  AO.box [AV.rsl [CK.str] a, AV.rsl [CK.str] b, AV.rsl [CK.int IntKind.i64, CK.int IntKind.i64, CK.str] c]),
                (1,
                  AO.box
                    [AV.val (Value.int IntKind.i64 x), AV.val (Value.int IntKind.i64 y),
                      AV.val (Value.int IntKind.i64 z)])],
            nx := 1000000, ps := [] }))
      False) := by kernel_rfl
theorem b55_1 (L : Lp) (R : Option Res → Prop) (N : St → Prop) (a b : List (Elem ks)) (c : List (Elem kl)) (x y z : Int) : (evP E55 G55 L (lp55 5) (st55 a b c x y z 1) (rk55 L R 5 N)) = (
    br (okD a b c)
      (br (hasD a b c x y 1)
        (br (secOk a.length 1 x && (decide (b.length = a.length) && decide (c.length ≤ 1048576)))
          (R
            (some
              { av := AV.tup [AV.val (Value.string (rdD a b c 1 x)), AV.val (Value.int IntKind.i64 0)], obs := [],
                outs := [] }))
          False)
        (N
          {
            tm :=
              [AV.agg [AV.rsl [CK.str] a, AV.rsl [CK.str] b, AV.rsl [CK.int IntKind.i64, CK.int IntKind.i64, CK.str] c],
                AV.agg
                  [AV.val (Value.int IntKind.i64 x), AV.val (Value.int IntKind.i64 y), AV.val (Value.int IntKind.i64 z)],
                AV.ptr 0 0, AV.ptr 1 0, AV.val (Value.string { data := #[] }), AV.val (Value.int IntKind.i64 0), AV.junk,
                AV.agg
                  [AV.val (Value.int IntKind.i64 x), AV.val (Value.int IntKind.i64 y), AV.val (Value.int IntKind.i64 z)],
                AV.agg
                  [AV.val (Value.int IntKind.i64 0), AV.val (Value.int IntKind.i64 0), AV.val (Value.int IntKind.i64 0)],
                AV.val
                  (Value.bool
                    (elemEq [CK.int IntKind.i64, CK.int IntKind.i64, CK.int IntKind.i64] (x, y, z, ())
                      (OfNat.ofNat 0, OfNat.ofNat 0, OfNat.ofNat 0, ()))),
                AV.agg [AV.rsl [CK.str] a, AV.rsl [CK.str] b, AV.rsl [CK.int IntKind.i64, CK.int IntKind.i64, CK.str] c],
                AV.val (Value.bool (okD a b c)), AV.val (Value.bool true),
                AV.agg
                  [AV.val (Value.int IntKind.i64 x), AV.val (Value.int IntKind.i64 y), AV.val (Value.int IntKind.i64 z)],
                AV.val (Value.bool (realP x y z)), AV.val (Value.bool (realP x y z)), AV.val (Value.int IntKind.i64 2),
                AV.junk, AV.junk, AV.junk, AV.junk, AV.junk, AV.junk, AV.junk, AV.junk, AV.junk, AV.junk, AV.junk, AV.junk],
            ob :=
              [(0,
                  AO.box [AV.rsl [CK.str] a, AV.rsl [CK.str] b, AV.rsl [CK.int IntKind.i64, CK.int IntKind.i64, CK.str] c]),
                (1,
                  AO.box
                    [AV.val (Value.int IntKind.i64 x), AV.val (Value.int IntKind.i64 y),
                      AV.val (Value.int IntKind.i64 z)])],
            nx := 1000000, ps := [] }))
      False) := by kernel_rfl
theorem b55_2 (L : Lp) (R : Option Res → Prop) (N : St → Prop) (a b : List (Elem ks)) (c : List (Elem kl)) (x y z : Int) : (evP E55 G55 L (lp55 5) (st55 a b c x y z 2) (rk55 L R 5 N)) = (
    R
      (some
        { av := AV.tup [AV.val (Value.string { data := #[] }), AV.val (Value.int IntKind.i64 2)], obs := [], outs := [] })) := by kernel_rfl
theorem ptr0 {x y z : Int} : elemEq [CK.int .i64, CK.int .i64, CK.int .i64] (x, y, z, ()) (0, 0, 0, ()) = (ptrOk x y z && x == 0) := by
  show (x == 0 && (y == 0 && z == 0)) = (ptrOk x y z && x == 0)
  unfold ptrOk
  cases hx : x == 0 with
  | false => simp
  | true =>
    have : x = 0 := by simpa using hx
    subst this
    simp
theorem h55 : G1Ok Try.prog 55 g54 := by
  intro args obs k h
  unfold g54 at h
  split at h
  · rename_i k a b c x y z
    obtain ⟨hp, h⟩ := br_and h
    refine ⟨_, ctr_fn ok0 hg55 Try.func55 (by kernel_rfl) (by kernel_rfl) (by kernel_rfl) fun C => ?_, h⟩
    rw [e55]
    refine br_intro (fun h1 => ?_) (fun h1 => br_t hp (br_intro (fun h2 => br_intro (fun h3 => ?_) (fun h3 => ?_)) (fun h2 => ?_)))
    · have h1' := h1
      rw [ptr0] at h1'
      show _ = _
      unfold rdBlk
      rw [h1']
      rfl
    · have e0 := h1
      rw [ptr0] at e0
      have es : ∀ s, sideD a b c x y z s = hasD a b c x y s := by
        intro s
        unfold sideD
        rw [h2, h3]
        rfl
      refine loopUp okf55 hg55 (α := Unit) (fun i _ => st55 a b c x y z i) 2 (fun i _ => (0 < i → sideD a b c x y z 0 = false) ∧ (1 < i → sideD a b c x y z 1 = false)) (fun N i _ hi ⟨h3, h4⟩ next => ?_) () ⟨by omega, by omega⟩
      have cs : i = 0 ∨ i = 1 ∨ i = 2 := by omega
      rcases cs with rfl | rfl | rfl
      · show evP E55 G55 _ (lp55 5) (st55 a b c x y z 0) (rk55 _ _ 5 _)
        rw [b55_0]
        refine br_t h2 (br_intro (fun h5 => ?_) (fun h5 => ?_)) <;> rw [← es] at h5
        · refine br_t (side_pre h5).2 ?_
          show _ = _
          unfold rdBlk
          rw [e0, h5]
        · exact next (by omega) () ⟨fun _ => h5, by omega⟩
      · show evP E55 G55 _ (lp55 5) (st55 a b c x y z 1) (rk55 _ _ 5 _)
        rw [b55_1]
        refine br_t h2 (br_intro (fun h5 => ?_) (fun h5 => ?_)) <;> rw [← es] at h5
        · refine br_t (side_pre h5).2 ?_
          show _ = _
          unfold rdBlk
          rw [e0, h3 (by omega), h5]
        · exact next (by omega) () ⟨fun _ => h3 (by omega), fun _ => h5⟩
      · show evP E55 G55 _ (lp55 5) (st55 a b c x y z 2) (rk55 _ _ 5 _)
        rw [b55_2]
        show _ = _
        unfold rdBlk
        rw [e0, h3 (by omega), h4 (by omega)]
        rfl
    · rw [ptr0] at h1
      show _ = _
      unfold rdBlk sideD
      rw [h1, h3, Bool.and_false]
      rfl
    · rw [ptr0] at h1
      show _ = _
      unfold rdBlk sideD
      rw [h1, h2]
      rfl
  · exact h.elim
noncomputable def E14 : Env := E0.of Try.f14
noncomputable def G14 : Gk := gk [(19, g19), (37, g37), (40, g40), (42, g42), (54, g54), (55, g54)]
noncomputable def lp14 (n : Nat) : Code := (loopOf n (codeOf Try.f14)).getD .skip
noncomputable def ct14 (L : Lp) (R : Option Res → Prop) (n : Nat) : Kt := contOf E14 G14 L n (codeOf Try.f14) (endK E14 Try.f14.results.toList R)
noncomputable def rk14 (L : Lp) (R : Option Res → Prop) (n : Nat) (N : St → Prop) : Kt := rk (jof E14 (lp14 n)) N (ct14 L R n)
noncomputable def LOOP14 (L : Lp) (R : Option Res → Prop) (n : Nat) (st : St) : Prop := L (lp14 n) st (ct14 L R n)
theorem hg14 : HG Try.prog G14 := (hg_cons h19 (hg_cons h37 (hg_cons h40 (hg_cons h42 (hg_cons h54 (hg_cons h55 hg_nil))))))
theorem okf14 : Ok Try.prog E14 := ok0.of Try.f14
theorem e14 (L : Lp) (R : Option Res → Prop) (a b : List (Elem ks)) (c : List (Elem kl)) (x y z : Int) : (bodyP E0 G14 L Try.f14 [.agg [.rsl ks a, .rsl ks b, .rsl kl c], .agg [.val (.int .i64 x), .val (.int .i64 y), .val (.int .i64 z)]] [] R) = (
    br (inD a b c && true)
      (br (decide (szR 1048576 (szD a b c) < 0)) (R (some { av := AV.val (Value.bool true), obs := [], outs := [] }))
        (br (smD a b c)
          (br (smD a b c)
            (br (smD a b c)
              (br (smD a b c)
                (br (!strEq (rdBlk a b c x y z).fst (rdBlk a b c x y z).fst)
                  (R (some { av := AV.val (Value.bool false), obs := [], outs := [] }))
                  (br ((rdBlk a b c x y z).snd != (rdBlk a b c x y z).snd)
                    (R (some { av := AV.val (Value.bool false), obs := [], outs := [] }))
                    (br (smD a b c)
                      (br (smD a b c)
                        (br (!eqD a b c a b c) (R (some { av := AV.val (Value.bool false), obs := [], outs := [] }))
                          (R (some { av := AV.val (Value.bool true), obs := [], outs := [] })))
                        False)
                      False)))
                False)
              False)
            False)
          False))
      False) := by kernel_rfl
theorem c14 (a b : List (Elem ks)) (c : List (Elem kl)) (x y z : Int) (h : dOk a b c) :
    Ctr Try.prog 14 [.agg [.rsl ks a, .rsl ks b, .rsl kl c], .agg [.val (.int .i64 x), .val (.int .i64 y), .val (.int .i64 z)]] [] ⟨.val (.bool true), [], []⟩ := by
  refine ctr_fn ok0 hg14 Try.func14 (by kernel_rfl) (by kernel_rfl) (by kernel_rfl) fun C => ?_
  rw [e14, inD_of h, eqD_self]
  refine br_t rfl (br_dec (fun _ => rfl) (fun h1 => ?_))
  have d1 := smD_of (by omega) h1
  refine br_t d1 (br_t d1 (br_t d1 (br_t d1 (br_not (fun h => ?_) (fun _ => br_intro (fun h => ?_) (fun _ => br_t d1 (br_t d1 (br_not (fun h => by cases h) (fun _ => rfl)))))))))
  · rw [strEq_self] at h
    cases h
  · simp at h
end Go.Proofs.Ytjhjhkphcemcmaa.Ev
