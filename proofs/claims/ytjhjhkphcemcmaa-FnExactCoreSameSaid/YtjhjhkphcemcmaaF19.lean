/- The law of CoreSame. -/
import Derived.Test.YtjhjhkphcemcmaaF18
namespace Go.Proofs.Ytjhjhkphcemcmaa.Ev
open Go
set_option linter.unusedVariables false
set_option linter.unusedSimpArgs false
set_option maxRecDepth 100000
def g108 : G1
  | [.rsl [.int .i64] xs, .rsl [.int .i64] ys], [], k => br (decide (xs.length ≤ 1048576)) (k ⟨.val (.bool (eqR ki xs ys)), [], []⟩) False
  | _, _, _ => False
noncomputable def E108 : Env := E0.of Try.f108
noncomputable def G108 : Gk := gk []
noncomputable def lp108 (n : Nat) : Code := (loopOf n (codeOf Try.f108)).getD .skip
noncomputable def ct108 (L : Lp) (R : Option Res → Prop) (n : Nat) : Kt := contOf E108 G108 L n (codeOf Try.f108) (endK E108 Try.f108.results.toList R)
noncomputable def rk108 (L : Lp) (R : Option Res → Prop) (n : Nat) (N : St → Prop) : Kt := rk (jof E108 (lp108 n)) N (ct108 L R n)
noncomputable def LOOP108 (L : Lp) (R : Option Res → Prop) (n : Nat) (st : St) : Prop := L (lp108 n) st (ct108 L R n)
theorem hg108 : HG Try.prog G108 := hg_nil
theorem okf108 : Ok Try.prog E108 := ok0.of Try.f108
theorem e108 (L : Lp) (R : Option Res → Prop) (xs ys : List (Elem ki)) : (bodyP E0 G108 L Try.f108 [.rsl ki xs, .rsl ki ys] [] R) = (
    br ((↑xs.length : Int) != (↑ys.length : Int)) (R (some { av := AV.val (Value.bool false), obs := [], outs := [] }))
      (LOOP108 L R 4
        {
          tm :=
            [AV.rsl [CK.int IntKind.i64] xs, AV.rsl [CK.int IntKind.i64] ys, AV.val (Value.tuple #[]),
              AV.val (Value.tuple #[]), AV.val (Value.bool false), AV.val (Value.int IntKind.i64 0),
              AV.rsl [CK.int IntKind.i64] xs, AV.val (Value.int IntKind.i64 (↑xs.length : Int)),
              AV.rsl [CK.int IntKind.i64] ys, AV.val (Value.int IntKind.i64 (↑ys.length : Int)),
              AV.val (Value.bool ((↑xs.length : Int) != (↑ys.length : Int))), AV.junk, AV.junk, AV.junk, AV.junk, AV.junk,
              AV.junk, AV.junk, AV.junk, AV.junk, AV.junk, AV.junk, AV.junk, AV.junk, AV.junk, AV.junk],
          ob := [], nx := 1000000, ps := [] })) := by kernel_rfl
def st108 (xs ys : List (Elem ki)) (i : Int) : St :=
  ⟨[AV.rsl [CK.int IntKind.i64] xs, AV.rsl [CK.int IntKind.i64] ys, AV.val (Value.tuple #[]), AV.val (Value.tuple #[]), AV.val (Value.bool false), .val (.int .i64 i), AV.rsl [CK.int IntKind.i64] xs, AV.val (Value.int IntKind.i64 (↑xs.length : Int)), AV.rsl [CK.int IntKind.i64] ys, AV.val (Value.int IntKind.i64 (↑ys.length : Int)), AV.val (Value.bool ((↑xs.length : Int) != (↑ys.length : Int))), AV.junk, AV.junk, AV.junk, AV.junk, AV.junk, AV.junk, AV.junk, AV.junk, AV.junk, AV.junk, AV.junk, AV.junk, AV.junk, AV.junk, AV.junk],
    [], 1000000, []⟩
theorem b108 (L : Lp) (R : Option Res → Prop) (N : St → Prop) (xs ys : List (Elem ki)) (i : Int) : (evP E108 G108 L (lp108 4) (st108 xs ys i) (rk108 L R 4 N)) = (
    br (decide (i < (↑xs.length : Int)))
      (br (decide (0 ≤ i ∧ i < (↑xs.length : Int)))
        (br (decide (0 ≤ i ∧ i < (↑ys.length : Int)))
          (br ((xs.getD i.toNat (edflt [CK.int IntKind.i64])).fst != (ys.getD i.toNat (edflt [CK.int IntKind.i64])).fst)
            (R (some { av := AV.val (Value.bool false), obs := [], outs := [] }))
            (N
              {
                tm :=
                  [AV.rsl [CK.int IntKind.i64] xs, AV.rsl [CK.int IntKind.i64] ys, AV.val (Value.tuple #[]),
                    AV.val (Value.tuple #[]), AV.val (Value.bool false),
                    AV.val (Value.int IntKind.i64 (IntKind.i64.wrap (i + 1))), AV.rsl [CK.int IntKind.i64] xs,
                    AV.val (Value.int IntKind.i64 (↑xs.length : Int)), AV.rsl [CK.int IntKind.i64] ys,
                    AV.val (Value.int IntKind.i64 (↑ys.length : Int)),
                    AV.val (Value.bool ((↑xs.length : Int) != (↑ys.length : Int))), AV.junk, AV.junk, AV.junk, AV.junk,
                    AV.junk, AV.junk, AV.junk, AV.junk, AV.junk, AV.junk, AV.junk, AV.junk, AV.junk, AV.junk, AV.junk],
                ob := [], nx := 1000000, ps := [] }))
          False)
        False)
      (R (some { av := AV.val (Value.bool true), obs := [], outs := [] }))) := by kernel_rfl
theorem h108 : G1Ok Try.prog 108 g108 := by
  intro args obs k h
  unfold g108 at h
  split at h
  · rename_i k xs ys
    obtain ⟨hlen, h⟩ := brd h
    refine ⟨_, ctr_fn ok0 hg108 Try.func108 (by kernel_rfl) (by kernel_rfl) (by kernel_rfl) fun C => ?_, h⟩
    rw [e108]
    refine br_intro (fun hb => ?_) (fun hb => ?_)
    · show _ = _
      rw [show eqR ki xs ys = false from eqL_len (fun e => by rw [e] at hb; simp at hb)]
    have hl : xs.length = ys.length := by simp at hb; omega
    exact loopAll okf108 hg108 (fun i => st108 xs ys i) xs.length (fun i => elemEq ki (xs.getD i (edflt ki)) (ys.getD i (edflt ki))) (by omega) (fun N i hi hw next fails done => by
      show evP E108 G108 _ (lp108 4) (st108 xs ys i) (rk108 _ _ 4 _)
      rw [b108, hw, Int.toNat_natCast]
      refine br_dec (fun h2 => br_yes ⟨by omega, h2⟩ (br_yes ⟨by omega, by omega⟩ (br_not (fun h3 => ?_) (fun h3 => ?_)))) (fun h2 => ?_)
      · show _ = _
        rw [show eqR ki xs ys = false from (eqL_of hl).trans (fails (by omega) h3)]
      · exact next (by omega) h3
      · show _ = _
        rw [show eqR ki xs ys = true from (eqL_of hl).trans (done (by omega))])
  · exact h.elim
noncomputable def E59 : Env := E0.of Try.f59
noncomputable def G59 : Gk := gk [(108, g108)]
noncomputable def lp59 (n : Nat) : Code := (loopOf n (codeOf Try.f59)).getD .skip
noncomputable def ct59 (L : Lp) (R : Option Res → Prop) (n : Nat) : Kt := contOf E59 G59 L n (codeOf Try.f59) (endK E59 Try.f59.results.toList R)
noncomputable def rk59 (L : Lp) (R : Option Res → Prop) (n : Nat) (N : St → Prop) : Kt := rk (jof E59 (lp59 n)) N (ct59 L R n)
noncomputable def LOOP59 (L : Lp) (R : Option Res → Prop) (n : Nat) (st : St) : Prop := L (lp59 n) st (ct59 L R n)
theorem hg59 : HG Try.prog G59 := (hg_cons h108 hg_nil)
theorem okf59 : Ok Try.prog E59 := ok0.of Try.f59
theorem e59 (L : Lp) (R : Option Res → Prop) (x : Int) (s : List (Elem kc)) (d p : List (Elem k3)) (b : Bool) (f : List (Elem ki)) (n : Int) (x' : Int) (s' : List (Elem kc)) (d' p' : List (Elem k3)) (b' : Bool) (f' : List (Elem ki)) (n' : Int) : (bodyP E0 G59 L Try.f59 [coreAV x s d p b f n, coreAV x' s' d' p' b' f' n'] [] R) = (
    br (x != x') (R (some { av := AV.val (Value.bool false), obs := [], outs := [] }))
      (br (!b == b') (R (some { av := AV.val (Value.bool false), obs := [], outs := [] }))
        (br (n != n') (R (some { av := AV.val (Value.bool false), obs := [], outs := [] }))
          (br ((↑s.length : Int) != (↑s'.length : Int))
            (R (some { av := AV.val (Value.bool false), obs := [], outs := [] }))
            (br ((↑d.length : Int) != (↑d'.length : Int))
              (R (some { av := AV.val (Value.bool false), obs := [], outs := [] }))
              (br ((↑p.length : Int) != (↑p'.length : Int))
                (R (some { av := AV.val (Value.bool false), obs := [], outs := [] }))
                (br (decide (f.length ≤ 1048576))
                  (br (!eqR ki f f') (R (some { av := AV.val (Value.bool false), obs := [], outs := [] }))
                    (LOOP59 L R 4
                      {
                        tm :=
                          [AV.agg
                              [AV.val (Value.int IntKind.i64 x),
                                AV.rsl
                                  [CK.str, CK.int IntKind.i64, CK.str, CK.int IntKind.i64, CK.int IntKind.i64,
                                    CK.int IntKind.i64, CK.int IntKind.i64, CK.int IntKind.i64, CK.int IntKind.i64,
                                    CK.int IntKind.i64, CK.int IntKind.i64, CK.int IntKind.i64, CK.int IntKind.i64,
                                    CK.int IntKind.i64, CK.int IntKind.i64, CK.int IntKind.i64, CK.int IntKind.i64,
                                    CK.int IntKind.i64, CK.int IntKind.i64, CK.int IntKind.i64, CK.int IntKind.i64,
                                    CK.int IntKind.i64, CK.int IntKind.i64, CK.int IntKind.i64, CK.int IntKind.i64,
                                    CK.int IntKind.i64, CK.int IntKind.i64, CK.int IntKind.i64, CK.int IntKind.i64,
                                    CK.int IntKind.i64, CK.bool]
                                  s,
                                AV.rsl [CK.int IntKind.i64, CK.int IntKind.i64, CK.int IntKind.i64] d,
                                AV.rsl [CK.int IntKind.i64, CK.int IntKind.i64, CK.int IntKind.i64] p,
                                AV.val (Value.bool b), AV.rsl [CK.int IntKind.i64] f, AV.val (Value.int IntKind.i64 n)],
                            AV.agg
                              [AV.val (Value.int IntKind.i64 x'),
                                AV.rsl
                                  [CK.str, CK.int IntKind.i64, CK.str, CK.int IntKind.i64, CK.int IntKind.i64,
                                    CK.int IntKind.i64, CK.int IntKind.i64, CK.int IntKind.i64, CK.int IntKind.i64,
                                    CK.int IntKind.i64, CK.int IntKind.i64, CK.int IntKind.i64, CK.int IntKind.i64,
                                    CK.int IntKind.i64, CK.int IntKind.i64, CK.int IntKind.i64, CK.int IntKind.i64,
                                    CK.int IntKind.i64, CK.int IntKind.i64, CK.int IntKind.i64, CK.int IntKind.i64,
                                    CK.int IntKind.i64, CK.int IntKind.i64, CK.int IntKind.i64, CK.int IntKind.i64,
                                    CK.int IntKind.i64, CK.int IntKind.i64, CK.int IntKind.i64, CK.int IntKind.i64,
                                    CK.int IntKind.i64, CK.bool]
                                  s',
                                AV.rsl [CK.int IntKind.i64, CK.int IntKind.i64, CK.int IntKind.i64] d',
                                AV.rsl [CK.int IntKind.i64, CK.int IntKind.i64, CK.int IntKind.i64] p',
                                AV.val (Value.bool b'), AV.rsl [CK.int IntKind.i64] f', AV.val (Value.int IntKind.i64 n')],
                            AV.ptr 0 0, AV.ptr 1 0, AV.val (Value.bool false), AV.val (Value.int IntKind.i64 0),
                            AV.val (Value.tuple #[]), AV.val (Value.tuple #[]), AV.ptr 0 0,
                            AV.val (Value.int IntKind.i64 x), AV.ptr 1 0, AV.val (Value.int IntKind.i64 x'),
                            AV.val (Value.bool (x != x')), AV.val (Value.bool false), AV.ptr 0 4, AV.val (Value.bool b),
                            AV.ptr 1 4, AV.val (Value.bool b'), AV.val (Value.bool !b == b'), AV.val (Value.bool !b == b'),
                            AV.val (Value.bool false), AV.ptr 0 6, AV.val (Value.int IntKind.i64 n), AV.ptr 1 6,
                            AV.val (Value.int IntKind.i64 n'), AV.val (Value.bool (n != n')), AV.val (Value.bool (n != n')),
                            AV.val (Value.bool false), AV.ptr 0 1,
                            AV.rsl
                              [CK.str, CK.int IntKind.i64, CK.str, CK.int IntKind.i64, CK.int IntKind.i64,
                                CK.int IntKind.i64, CK.int IntKind.i64, CK.int IntKind.i64, CK.int IntKind.i64,
                                CK.int IntKind.i64, CK.int IntKind.i64, CK.int IntKind.i64, CK.int IntKind.i64,
                                CK.int IntKind.i64, CK.int IntKind.i64, CK.int IntKind.i64, CK.int IntKind.i64,
                                CK.int IntKind.i64, CK.int IntKind.i64, CK.int IntKind.i64, CK.int IntKind.i64,
                                CK.int IntKind.i64, CK.int IntKind.i64, CK.int IntKind.i64, CK.int IntKind.i64,
                                CK.int IntKind.i64, CK.int IntKind.i64, CK.int IntKind.i64, CK.int IntKind.i64,
                                CK.int IntKind.i64, CK.bool]
                              s,
                            AV.val (Value.int IntKind.i64 (↑s.length : Int)), AV.ptr 1 1,
                            AV.rsl
                              [CK.str, CK.int IntKind.i64, CK.str, CK.int IntKind.i64, CK.int IntKind.i64,
                                CK.int IntKind.i64, CK.int IntKind.i64, CK.int IntKind.i64, CK.int IntKind.i64,
                                CK.int IntKind.i64, CK.int IntKind.i64, CK.int IntKind.i64, CK.int IntKind.i64,
                                CK.int IntKind.i64, CK.int IntKind.i64, CK.int IntKind.i64, CK.int IntKind.i64,
                                CK.int IntKind.i64, CK.int IntKind.i64, CK.int IntKind.i64, CK.int IntKind.i64,
                                CK.int IntKind.i64, CK.int IntKind.i64, CK.int IntKind.i64, CK.int IntKind.i64,
                                CK.int IntKind.i64, CK.int IntKind.i64, CK.int IntKind.i64, CK.int IntKind.i64,
                                CK.int IntKind.i64, CK.bool]
                              s',
                            AV.val (Value.int IntKind.i64 (↑s'.length : Int)),
                            AV.val (Value.bool ((↑s.length : Int) != (↑s'.length : Int))),
                            AV.val (Value.bool ((↑s.length : Int) != (↑s'.length : Int))), AV.val (Value.bool false),
                            AV.ptr 0 2, AV.rsl [CK.int IntKind.i64, CK.int IntKind.i64, CK.int IntKind.i64] d,
                            AV.val (Value.int IntKind.i64 (↑d.length : Int)), AV.ptr 1 2,
                            AV.rsl [CK.int IntKind.i64, CK.int IntKind.i64, CK.int IntKind.i64] d',
                            AV.val (Value.int IntKind.i64 (↑d'.length : Int)),
                            AV.val (Value.bool ((↑d.length : Int) != (↑d'.length : Int))),
                            AV.val (Value.bool ((↑d.length : Int) != (↑d'.length : Int))), AV.val (Value.bool false),
                            AV.ptr 0 3, AV.rsl [CK.int IntKind.i64, CK.int IntKind.i64, CK.int IntKind.i64] p,
                            AV.val (Value.int IntKind.i64 (↑p.length : Int)), AV.ptr 1 3,
                            AV.rsl [CK.int IntKind.i64, CK.int IntKind.i64, CK.int IntKind.i64] p',
                            AV.val (Value.int IntKind.i64 (↑p'.length : Int)),
                            AV.val (Value.bool ((↑p.length : Int) != (↑p'.length : Int))),
                            AV.val (Value.bool ((↑p.length : Int) != (↑p'.length : Int))), AV.val (Value.bool false),
                            AV.ptr 0 5, AV.rsl [CK.int IntKind.i64] f, AV.ptr 1 5, AV.rsl [CK.int IntKind.i64] f',
                            AV.val (Value.bool (eqR ki f f')), AV.val (Value.bool !eqR ki f f'),
                            AV.val (Value.bool !eqR ki f f'), AV.junk, AV.junk, AV.junk, AV.junk, AV.junk, AV.junk, AV.junk,
                            AV.junk, AV.junk, AV.junk, AV.junk, AV.junk, AV.junk, AV.junk, AV.junk, AV.junk, AV.junk,
                            AV.junk, AV.val (Value.tuple #[]), AV.val (Value.tuple #[]), AV.val (Value.tuple #[]),
                            AV.val (Value.tuple #[]), AV.val (Value.tuple #[]), AV.val (Value.tuple #[]),
                            AV.val (Value.tuple #[]), AV.val (Value.tuple #[]), AV.val (Value.tuple #[]),
                            AV.val (Value.tuple #[]), AV.val (Value.tuple #[]), AV.val (Value.tuple #[]),
                            AV.val (Value.tuple #[]), AV.val (Value.tuple #[]), AV.val (Value.tuple #[]),
                            AV.val (Value.tuple #[]), AV.val (Value.tuple #[]), AV.val (Value.tuple #[]),
                            AV.val (Value.tuple #[]), AV.val (Value.tuple #[]), AV.val (Value.tuple #[]),
                            AV.val (Value.tuple #[]), AV.val (Value.tuple #[]), AV.val (Value.tuple #[]),
                            AV.val (Value.tuple #[]), AV.val (Value.tuple #[]), AV.val (Value.tuple #[]),
                            AV.val (Value.tuple #[]), AV.val (Value.tuple #[]), AV.val (Value.tuple #[]),
                            AV.val (Value.tuple #[]), AV.val (Value.tuple #[]), AV.val (Value.tuple #[]),
                            AV.val (Value.tuple #[]), AV.val (Value.tuple #[]), AV.val (Value.tuple #[])],
                        ob :=
                          [(0,
                              AO.box
                                [AV.val (Value.int IntKind.i64 x),
                                  AV.rsl
                                    [CK.str, CK.int IntKind.i64, CK.str, CK.int IntKind.i64, CK.int IntKind.i64,
                                      CK.int IntKind.i64, CK.int IntKind.i64, CK.int IntKind.i64, CK.int IntKind.i64,
                                      CK.int IntKind.i64, CK.int IntKind.i64, CK.int IntKind.i64, CK.int IntKind.i64,
                                      CK.int IntKind.i64, CK.int IntKind.i64, CK.int IntKind.i64, CK.int IntKind.i64,
                                      CK.int IntKind.i64, CK.int IntKind.i64, CK.int IntKind.i64, CK.int IntKind.i64,
                                      CK.int IntKind.i64, CK.int IntKind.i64, CK.int IntKind.i64, CK.int IntKind.i64,
                                      CK.int IntKind.i64, CK.int IntKind.i64, CK.int IntKind.i64, CK.int IntKind.i64,
                                      CK.int IntKind.i64, CK.bool]
                                    s,
                                  AV.rsl [CK.int IntKind.i64, CK.int IntKind.i64, CK.int IntKind.i64] d,
                                  AV.rsl [CK.int IntKind.i64, CK.int IntKind.i64, CK.int IntKind.i64] p,
                                  AV.val (Value.bool b), AV.rsl [CK.int IntKind.i64] f, AV.val (Value.int IntKind.i64 n)]),
                            (1,
                              AO.box
                                [AV.val (Value.int IntKind.i64 x'),
                                  AV.rsl
                                    [CK.str, CK.int IntKind.i64, CK.str, CK.int IntKind.i64, CK.int IntKind.i64,
                                      CK.int IntKind.i64, CK.int IntKind.i64, CK.int IntKind.i64, CK.int IntKind.i64,
                                      CK.int IntKind.i64, CK.int IntKind.i64, CK.int IntKind.i64, CK.int IntKind.i64,
                                      CK.int IntKind.i64, CK.int IntKind.i64, CK.int IntKind.i64, CK.int IntKind.i64,
                                      CK.int IntKind.i64, CK.int IntKind.i64, CK.int IntKind.i64, CK.int IntKind.i64,
                                      CK.int IntKind.i64, CK.int IntKind.i64, CK.int IntKind.i64, CK.int IntKind.i64,
                                      CK.int IntKind.i64, CK.int IntKind.i64, CK.int IntKind.i64, CK.int IntKind.i64,
                                      CK.int IntKind.i64, CK.bool]
                                    s',
                                  AV.rsl [CK.int IntKind.i64, CK.int IntKind.i64, CK.int IntKind.i64] d',
                                  AV.rsl [CK.int IntKind.i64, CK.int IntKind.i64, CK.int IntKind.i64] p',
                                  AV.val (Value.bool b'), AV.rsl [CK.int IntKind.i64] f',
                                  AV.val (Value.int IntKind.i64 n')])],
                        nx := 1000000, ps := [] }))
                  False))))))) := by kernel_rfl
def st59 (x : Int) (s : List (Elem kc)) (d p : List (Elem k3)) (b : Bool) (f : List (Elem ki)) (n : Int) (x' : Int) (s' : List (Elem kc)) (d' p' : List (Elem k3)) (b' : Bool) (f' : List (Elem ki)) (n' : Int) (i : Int) : St :=
  ⟨[AV.agg [AV.val (Value.int IntKind.i64 x), AV.rsl [CK.str, CK.int IntKind.i64, CK.str, CK.int IntKind.i64, CK.int IntKind.i64, CK.int IntKind.i64, CK.int IntKind.i64, CK.int IntKind.i64, CK.int IntKind.i64, CK.int IntKind.i64, CK.int IntKind.i64, CK.int IntKind.i64, CK.int IntKind.i64, CK.int IntKind.i64, CK.int IntKind.i64, CK.int IntKind.i64, CK.int IntKind.i64, CK.int IntKind.i64, CK.int IntKind.i64, CK.int IntKind.i64, CK.int IntKind.i64, CK.int IntKind.i64, CK.int IntKind.i64, CK.int IntKind.i64, CK.int IntKind.i64, CK.int IntKind.i64, CK.int IntKind.i64, CK.int IntKind.i64, CK.int IntKind.i64, CK.int IntKind.i64, CK.bool] s, AV.rsl [CK.int IntKind.i64, CK.int IntKind.i64, CK.int IntKind.i64] d, AV.rsl [CK.int IntKind.i64, CK.int IntKind.i64, CK.int IntKind.i64] p, AV.val (Value.bool b), AV.rsl [CK.int IntKind.i64] f, AV.val (Value.int IntKind.i64 n)], AV.agg [AV.val (Value.int IntKind.i64 x'), AV.rsl [CK.str, CK.int IntKind.i64, CK.str, CK.int IntKind.i64, CK.int IntKind.i64, CK.int IntKind.i64, CK.int IntKind.i64, CK.int IntKind.i64, CK.int IntKind.i64, CK.int IntKind.i64, CK.int IntKind.i64, CK.int IntKind.i64, CK.int IntKind.i64, CK.int IntKind.i64, CK.int IntKind.i64, CK.int IntKind.i64, CK.int IntKind.i64, CK.int IntKind.i64, CK.int IntKind.i64, CK.int IntKind.i64, CK.int IntKind.i64, CK.int IntKind.i64, CK.int IntKind.i64, CK.int IntKind.i64, CK.int IntKind.i64, CK.int IntKind.i64, CK.int IntKind.i64, CK.int IntKind.i64, CK.int IntKind.i64, CK.int IntKind.i64, CK.bool] s', AV.rsl [CK.int IntKind.i64, CK.int IntKind.i64, CK.int IntKind.i64] d', AV.rsl [CK.int IntKind.i64, CK.int IntKind.i64, CK.int IntKind.i64] p', AV.val (Value.bool b'), AV.rsl [CK.int IntKind.i64] f', AV.val (Value.int IntKind.i64 n')], AV.ptr 0 0, AV.ptr 1 0, AV.val (Value.bool false), .val (.int .i64 i), AV.val (Value.tuple #[]), AV.val (Value.tuple #[]), AV.ptr 0 0, AV.val (Value.int IntKind.i64 x), AV.ptr 1 0, AV.val (Value.int IntKind.i64 x'), AV.val (Value.bool (x != x')), AV.val (Value.bool false), AV.ptr 0 4, AV.val (Value.bool b), AV.ptr 1 4, AV.val (Value.bool b'), AV.val (Value.bool !b == b'), AV.val (Value.bool !b == b'), AV.val (Value.bool false), AV.ptr 0 6, AV.val (Value.int IntKind.i64 n), AV.ptr 1 6, AV.val (Value.int IntKind.i64 n'), AV.val (Value.bool (n != n')), AV.val (Value.bool (n != n')), AV.val (Value.bool false), AV.ptr 0 1, AV.rsl [CK.str, CK.int IntKind.i64, CK.str, CK.int IntKind.i64, CK.int IntKind.i64, CK.int IntKind.i64, CK.int IntKind.i64, CK.int IntKind.i64, CK.int IntKind.i64, CK.int IntKind.i64, CK.int IntKind.i64, CK.int IntKind.i64, CK.int IntKind.i64, CK.int IntKind.i64, CK.int IntKind.i64, CK.int IntKind.i64, CK.int IntKind.i64, CK.int IntKind.i64, CK.int IntKind.i64, CK.int IntKind.i64, CK.int IntKind.i64, CK.int IntKind.i64, CK.int IntKind.i64, CK.int IntKind.i64, CK.int IntKind.i64, CK.int IntKind.i64, CK.int IntKind.i64, CK.int IntKind.i64, CK.int IntKind.i64, CK.int IntKind.i64, CK.bool] s, AV.val (Value.int IntKind.i64 (↑s.length : Int)), AV.ptr 1 1, AV.rsl [CK.str, CK.int IntKind.i64, CK.str, CK.int IntKind.i64, CK.int IntKind.i64, CK.int IntKind.i64, CK.int IntKind.i64, CK.int IntKind.i64, CK.int IntKind.i64, CK.int IntKind.i64, CK.int IntKind.i64, CK.int IntKind.i64, CK.int IntKind.i64, CK.int IntKind.i64, CK.int IntKind.i64, CK.int IntKind.i64, CK.int IntKind.i64, CK.int IntKind.i64, CK.int IntKind.i64, CK.int IntKind.i64, CK.int IntKind.i64, CK.int IntKind.i64, CK.int IntKind.i64, CK.int IntKind.i64, CK.int IntKind.i64, CK.int IntKind.i64, CK.int IntKind.i64, CK.int IntKind.i64, CK.int IntKind.i64, CK.int IntKind.i64, CK.bool] s', AV.val (Value.int IntKind.i64 (↑s'.length : Int)), AV.val (Value.bool ((↑s.length : Int) != (↑s'.length : Int))), AV.val (Value.bool ((↑s.length : Int) != (↑s'.length : Int))), AV.val (Value.bool false), AV.ptr 0 2, AV.rsl [CK.int IntKind.i64, CK.int IntKind.i64, CK.int IntKind.i64] d, AV.val (Value.int IntKind.i64 (↑d.length : Int)), AV.ptr 1 2, AV.rsl [CK.int IntKind.i64, CK.int IntKind.i64, CK.int IntKind.i64] d', AV.val (Value.int IntKind.i64 (↑d'.length : Int)), AV.val (Value.bool ((↑d.length : Int) != (↑d'.length : Int))), AV.val (Value.bool ((↑d.length : Int) != (↑d'.length : Int))), AV.val (Value.bool false), AV.ptr 0 3, AV.rsl [CK.int IntKind.i64, CK.int IntKind.i64, CK.int IntKind.i64] p, AV.val (Value.int IntKind.i64 (↑p.length : Int)), AV.ptr 1 3, AV.rsl [CK.int IntKind.i64, CK.int IntKind.i64, CK.int IntKind.i64] p', AV.val (Value.int IntKind.i64 (↑p'.length : Int)), AV.val (Value.bool ((↑p.length : Int) != (↑p'.length : Int))), AV.val (Value.bool ((↑p.length : Int) != (↑p'.length : Int))), AV.val (Value.bool false), AV.ptr 0 5, AV.rsl [CK.int IntKind.i64] f, AV.ptr 1 5, AV.rsl [CK.int IntKind.i64] f', AV.val (Value.bool (eqR ki f f')), AV.val (Value.bool !eqR ki f f'), AV.val (Value.bool !eqR ki f f'), AV.junk, AV.junk, AV.junk, AV.junk, AV.junk, AV.junk, AV.junk, AV.junk, AV.junk, AV.junk, AV.junk, AV.junk, AV.junk, AV.junk, AV.junk, AV.junk, AV.junk, AV.junk, AV.val (Value.tuple #[]), AV.val (Value.tuple #[]), AV.val (Value.tuple #[]), AV.val (Value.tuple #[]), AV.val (Value.tuple #[]), AV.val (Value.tuple #[]), AV.val (Value.tuple #[]), AV.val (Value.tuple #[]), AV.val (Value.tuple #[]), AV.val (Value.tuple #[]), AV.val (Value.tuple #[]), AV.val (Value.tuple #[]), AV.val (Value.tuple #[]), AV.val (Value.tuple #[]), AV.val (Value.tuple #[]), AV.val (Value.tuple #[]), AV.val (Value.tuple #[]), AV.val (Value.tuple #[]), AV.val (Value.tuple #[]), AV.val (Value.tuple #[]), AV.val (Value.tuple #[]), AV.val (Value.tuple #[]), AV.val (Value.tuple #[]), AV.val (Value.tuple #[]), AV.val (Value.tuple #[]), AV.val (Value.tuple #[]), AV.val (Value.tuple #[]), AV.val (Value.tuple #[]), AV.val (Value.tuple #[]), AV.val (Value.tuple #[]), AV.val (Value.tuple #[]), AV.val (Value.tuple #[]), AV.val (Value.tuple #[]), AV.val (Value.tuple #[]), AV.val (Value.tuple #[]), AV.val (Value.tuple #[])],
    [(0, AO.box [AV.val (Value.int IntKind.i64 x), AV.rsl [CK.str, CK.int IntKind.i64, CK.str, CK.int IntKind.i64, CK.int IntKind.i64, CK.int IntKind.i64, CK.int IntKind.i64, CK.int IntKind.i64, CK.int IntKind.i64, CK.int IntKind.i64, CK.int IntKind.i64, CK.int IntKind.i64, CK.int IntKind.i64, CK.int IntKind.i64, CK.int IntKind.i64, CK.int IntKind.i64, CK.int IntKind.i64, CK.int IntKind.i64, CK.int IntKind.i64, CK.int IntKind.i64, CK.int IntKind.i64, CK.int IntKind.i64, CK.int IntKind.i64, CK.int IntKind.i64, CK.int IntKind.i64, CK.int IntKind.i64, CK.int IntKind.i64, CK.int IntKind.i64, CK.int IntKind.i64, CK.int IntKind.i64, CK.bool] s, AV.rsl [CK.int IntKind.i64, CK.int IntKind.i64, CK.int IntKind.i64] d, AV.rsl [CK.int IntKind.i64, CK.int IntKind.i64, CK.int IntKind.i64] p, AV.val (Value.bool b), AV.rsl [CK.int IntKind.i64] f, AV.val (Value.int IntKind.i64 n)]), (1, AO.box [AV.val (Value.int IntKind.i64 x'), AV.rsl [CK.str, CK.int IntKind.i64, CK.str, CK.int IntKind.i64, CK.int IntKind.i64, CK.int IntKind.i64, CK.int IntKind.i64, CK.int IntKind.i64, CK.int IntKind.i64, CK.int IntKind.i64, CK.int IntKind.i64, CK.int IntKind.i64, CK.int IntKind.i64, CK.int IntKind.i64, CK.int IntKind.i64, CK.int IntKind.i64, CK.int IntKind.i64, CK.int IntKind.i64, CK.int IntKind.i64, CK.int IntKind.i64, CK.int IntKind.i64, CK.int IntKind.i64, CK.int IntKind.i64, CK.int IntKind.i64, CK.int IntKind.i64, CK.int IntKind.i64, CK.int IntKind.i64, CK.int IntKind.i64, CK.int IntKind.i64, CK.int IntKind.i64, CK.bool] s', AV.rsl [CK.int IntKind.i64, CK.int IntKind.i64, CK.int IntKind.i64] d', AV.rsl [CK.int IntKind.i64, CK.int IntKind.i64, CK.int IntKind.i64] p', AV.val (Value.bool b'), AV.rsl [CK.int IntKind.i64] f', AV.val (Value.int IntKind.i64 n')])], 1000000, []⟩
theorem b59 (L : Lp) (R : Option Res → Prop) (N : St → Prop) (x : Int) (s : List (Elem kc)) (d p : List (Elem k3)) (b : Bool) (f : List (Elem ki)) (n : Int) (x' : Int) (s' : List (Elem kc)) (d' p' : List (Elem k3)) (b' : Bool) (f' : List (Elem ki)) (n' : Int) (i : Int) : (evP E59 G59 L (lp59 4) (st59 x s d p b f n x' s' d' p' b' f' n' i) (rk59 L R 4 N)) = (
    br (decide (i < (↑s.length : Int)))
      (br (decide (0 ≤ i ∧ i < (↑s.length : Int)))
        (br (decide (0 ≤ i ∧ i < (↑s'.length : Int)))
          (br
            (!elemEq
                [CK.str, CK.int IntKind.i64, CK.str, CK.int IntKind.i64, CK.int IntKind.i64, CK.int IntKind.i64,
                        CK.int IntKind.i64, CK.int IntKind.i64, CK.int IntKind.i64, CK.int IntKind.i64, CK.int IntKind.i64,
                        CK.int IntKind.i64, CK.int IntKind.i64, CK.int IntKind.i64, CK.int IntKind.i64, CK.int IntKind.i64,
                        CK.int IntKind.i64, CK.int IntKind.i64, CK.int IntKind.i64, CK.int IntKind.i64, CK.int IntKind.i64,
                        CK.int IntKind.i64, CK.int IntKind.i64, CK.int IntKind.i64, CK.int IntKind.i64, CK.int IntKind.i64,
                        CK.int IntKind.i64, CK.int IntKind.i64, CK.int IntKind.i64, CK.int IntKind.i64, CK.bool]
                (s.getD i.toNat
                  (edflt
                    [CK.str, CK.int IntKind.i64, CK.str, CK.int IntKind.i64, CK.int IntKind.i64, CK.int IntKind.i64,
                      CK.int IntKind.i64, CK.int IntKind.i64, CK.int IntKind.i64, CK.int IntKind.i64, CK.int IntKind.i64,
                      CK.int IntKind.i64, CK.int IntKind.i64, CK.int IntKind.i64, CK.int IntKind.i64, CK.int IntKind.i64,
                      CK.int IntKind.i64, CK.int IntKind.i64, CK.int IntKind.i64, CK.int IntKind.i64, CK.int IntKind.i64,
                      CK.int IntKind.i64, CK.int IntKind.i64, CK.int IntKind.i64, CK.int IntKind.i64, CK.int IntKind.i64,
                      CK.int IntKind.i64, CK.int IntKind.i64, CK.int IntKind.i64, CK.int IntKind.i64, CK.bool]))
                (s'.getD i.toNat
                  (edflt
                    [CK.str, CK.int IntKind.i64, CK.str, CK.int IntKind.i64, CK.int IntKind.i64, CK.int IntKind.i64,
                      CK.int IntKind.i64, CK.int IntKind.i64, CK.int IntKind.i64, CK.int IntKind.i64, CK.int IntKind.i64,
                      CK.int IntKind.i64, CK.int IntKind.i64, CK.int IntKind.i64, CK.int IntKind.i64, CK.int IntKind.i64,
                      CK.int IntKind.i64, CK.int IntKind.i64, CK.int IntKind.i64, CK.int IntKind.i64, CK.int IntKind.i64,
                      CK.int IntKind.i64, CK.int IntKind.i64, CK.int IntKind.i64, CK.int IntKind.i64, CK.int IntKind.i64,
                      CK.int IntKind.i64, CK.int IntKind.i64, CK.int IntKind.i64, CK.int IntKind.i64, CK.bool])))
            (R (some { av := AV.val (Value.bool false), obs := [], outs := [] }))
            (N
              {
                tm :=
                  [AV.agg
                      [AV.val (Value.int IntKind.i64 x),
                        AV.rsl
                          [CK.str, CK.int IntKind.i64, CK.str, CK.int IntKind.i64, CK.int IntKind.i64, CK.int IntKind.i64,
                            CK.int IntKind.i64, CK.int IntKind.i64, CK.int IntKind.i64, CK.int IntKind.i64,
                            CK.int IntKind.i64, CK.int IntKind.i64, CK.int IntKind.i64, CK.int IntKind.i64,
                            CK.int IntKind.i64, CK.int IntKind.i64, CK.int IntKind.i64, CK.int IntKind.i64,
                            CK.int IntKind.i64, CK.int IntKind.i64, CK.int IntKind.i64, CK.int IntKind.i64,
                            CK.int IntKind.i64, CK.int IntKind.i64, CK.int IntKind.i64, CK.int IntKind.i64,
                            CK.int IntKind.i64, CK.int IntKind.i64, CK.int IntKind.i64, CK.int IntKind.i64, CK.bool]
                          s,
                        AV.rsl [CK.int IntKind.i64, CK.int IntKind.i64, CK.int IntKind.i64] d,
                        AV.rsl [CK.int IntKind.i64, CK.int IntKind.i64, CK.int IntKind.i64] p, AV.val (Value.bool b),
                        AV.rsl [CK.int IntKind.i64] f, AV.val (Value.int IntKind.i64 n)],
                    AV.agg
                      [AV.val (Value.int IntKind.i64 x'),
                        AV.rsl
                          [CK.str, CK.int IntKind.i64, CK.str, CK.int IntKind.i64, CK.int IntKind.i64, CK.int IntKind.i64,
                            CK.int IntKind.i64, CK.int IntKind.i64, CK.int IntKind.i64, CK.int IntKind.i64,
                            CK.int IntKind.i64, CK.int IntKind.i64, CK.int IntKind.i64, CK.int IntKind.i64,
                            CK.int IntKind.i64, CK.int IntKind.i64, CK.int IntKind.i64, CK.int IntKind.i64,
                            CK.int IntKind.i64, CK.int IntKind.i64, CK.int IntKind.i64, CK.int IntKind.i64,
                            CK.int IntKind.i64, CK.int IntKind.i64, CK.int IntKind.i64, CK.int IntKind.i64,
                            CK.int IntKind.i64, CK.int IntKind.i64, CK.int IntKind.i64, CK.int IntKind.i64, CK.bool]
                          s',
                        AV.rsl [CK.int IntKind.i64, CK.int IntKind.i64, CK.int IntKind.i64] d',
                        AV.rsl [CK.int IntKind.i64, CK.int IntKind.i64, CK.int IntKind.i64] p', AV.val (Value.bool b'),
                        AV.rsl [CK.int IntKind.i64] f', AV.val (Value.int IntKind.i64 n')],
                    AV.ptr 0 0, AV.ptr 1 0, AV.val (Value.bool false),
                    AV.val (Value.int IntKind.i64 (IntKind.i64.wrap (i + 1))), AV.val (Value.tuple #[]),
                    AV.val (Value.tuple #[]), AV.ptr 0 0, AV.val (Value.int IntKind.i64 x), AV.ptr 1 0,
                    AV.val (Value.int IntKind.i64 x'), AV.val (Value.bool (x != x')), AV.val (Value.bool false), AV.ptr 0 4,
                    AV.val (Value.bool b), AV.ptr 1 4, AV.val (Value.bool b'), AV.val (Value.bool !b == b'),
                    AV.val (Value.bool !b == b'), AV.val (Value.bool false), AV.ptr 0 6, AV.val (Value.int IntKind.i64 n),
                    AV.ptr 1 6, AV.val (Value.int IntKind.i64 n'), AV.val (Value.bool (n != n')),
                    AV.val (Value.bool (n != n')), AV.val (Value.bool false), AV.ptr 0 1,
                    AV.rsl
                      [CK.str, CK.int IntKind.i64, CK.str, CK.int IntKind.i64, CK.int IntKind.i64, CK.int IntKind.i64,
                        CK.int IntKind.i64, CK.int IntKind.i64, CK.int IntKind.i64, CK.int IntKind.i64, CK.int IntKind.i64,
                        CK.int IntKind.i64, CK.int IntKind.i64, CK.int IntKind.i64, CK.int IntKind.i64, CK.int IntKind.i64,
                        CK.int IntKind.i64, CK.int IntKind.i64, CK.int IntKind.i64, CK.int IntKind.i64, CK.int IntKind.i64,
                        CK.int IntKind.i64, CK.int IntKind.i64, CK.int IntKind.i64, CK.int IntKind.i64, CK.int IntKind.i64,
                        CK.int IntKind.i64, CK.int IntKind.i64, CK.int IntKind.i64, CK.int IntKind.i64, CK.bool]
                      s,
                    AV.val (Value.int IntKind.i64 (↑s.length : Int)), AV.ptr 1 1,
                    AV.rsl
                      [CK.str, CK.int IntKind.i64, CK.str, CK.int IntKind.i64, CK.int IntKind.i64, CK.int IntKind.i64,
                        CK.int IntKind.i64, CK.int IntKind.i64, CK.int IntKind.i64, CK.int IntKind.i64, CK.int IntKind.i64,
                        CK.int IntKind.i64, CK.int IntKind.i64, CK.int IntKind.i64, CK.int IntKind.i64, CK.int IntKind.i64,
                        CK.int IntKind.i64, CK.int IntKind.i64, CK.int IntKind.i64, CK.int IntKind.i64, CK.int IntKind.i64,
                        CK.int IntKind.i64, CK.int IntKind.i64, CK.int IntKind.i64, CK.int IntKind.i64, CK.int IntKind.i64,
                        CK.int IntKind.i64, CK.int IntKind.i64, CK.int IntKind.i64, CK.int IntKind.i64, CK.bool]
                      s',
                    AV.val (Value.int IntKind.i64 (↑s'.length : Int)),
                    AV.val (Value.bool ((↑s.length : Int) != (↑s'.length : Int))),
                    AV.val (Value.bool ((↑s.length : Int) != (↑s'.length : Int))), AV.val (Value.bool false), AV.ptr 0 2,
                    AV.rsl [CK.int IntKind.i64, CK.int IntKind.i64, CK.int IntKind.i64] d,
                    AV.val (Value.int IntKind.i64 (↑d.length : Int)), AV.ptr 1 2,
                    AV.rsl [CK.int IntKind.i64, CK.int IntKind.i64, CK.int IntKind.i64] d',
                    AV.val (Value.int IntKind.i64 (↑d'.length : Int)),
                    AV.val (Value.bool ((↑d.length : Int) != (↑d'.length : Int))),
                    AV.val (Value.bool ((↑d.length : Int) != (↑d'.length : Int))), AV.val (Value.bool false), AV.ptr 0 3,
                    AV.rsl [CK.int IntKind.i64, CK.int IntKind.i64, CK.int IntKind.i64] p,
                    AV.val (Value.int IntKind.i64 (↑p.length : Int)), AV.ptr 1 3,
                    AV.rsl [CK.int IntKind.i64, CK.int IntKind.i64, CK.int IntKind.i64] p',
                    AV.val (Value.int IntKind.i64 (↑p'.length : Int)),
                    AV.val (Value.bool ((↑p.length : Int) != (↑p'.length : Int))),
                    AV.val (Value.bool ((↑p.length : Int) != (↑p'.length : Int))), AV.val (Value.bool false), AV.ptr 0 5,
                    AV.rsl [CK.int IntKind.i64] f, AV.ptr 1 5, AV.rsl [CK.int IntKind.i64] f',
                    AV.val (Value.bool (eqR ki f f')), AV.val (Value.bool !eqR ki f f'), AV.val (Value.bool !eqR ki f f'),
                    AV.junk, AV.junk, AV.junk, AV.junk, AV.junk, AV.junk, AV.junk, AV.junk, AV.junk, AV.junk, AV.junk,
                    AV.junk, AV.junk, AV.junk, AV.junk, AV.junk, AV.junk, AV.junk, AV.val (Value.tuple #[]),
                    AV.val (Value.tuple #[]), AV.val (Value.tuple #[]), AV.val (Value.tuple #[]), AV.val (Value.tuple #[]),
                    AV.val (Value.tuple #[]), AV.val (Value.tuple #[]), AV.val (Value.tuple #[]), AV.val (Value.tuple #[]),
                    AV.val (Value.tuple #[]), AV.val (Value.tuple #[]), AV.val (Value.tuple #[]), AV.val (Value.tuple #[]),
                    AV.val (Value.tuple #[]), AV.val (Value.tuple #[]), AV.val (Value.tuple #[]), AV.val (Value.tuple #[]),
                    AV.val (Value.tuple #[]), AV.val (Value.tuple #[]), AV.val (Value.tuple #[]), AV.val (Value.tuple #[]),
                    AV.val (Value.tuple #[]), AV.val (Value.tuple #[]), AV.val (Value.tuple #[]), AV.val (Value.tuple #[]),
                    AV.val (Value.tuple #[]), AV.val (Value.tuple #[]), AV.val (Value.tuple #[]), AV.val (Value.tuple #[]),
                    AV.val (Value.tuple #[]), AV.val (Value.tuple #[]), AV.val (Value.tuple #[]), AV.val (Value.tuple #[]),
                    AV.val (Value.tuple #[]), AV.val (Value.tuple #[]), AV.val (Value.tuple #[])],
                ob :=
                  [(0,
                      AO.box
                        [AV.val (Value.int IntKind.i64 x),
                          AV.rsl
                            [CK.str, CK.int IntKind.i64, CK.str, CK.int IntKind.i64, CK.int IntKind.i64, CK.int IntKind.i64,
                              CK.int IntKind.i64, CK.int IntKind.i64, CK.int IntKind.i64, CK.int IntKind.i64,
                              CK.int IntKind.i64, CK.int IntKind.i64, CK.int IntKind.i64, CK.int IntKind.i64,
                              CK.int IntKind.i64, CK.int IntKind.i64, CK.int IntKind.i64, CK.int IntKind.i64,
                              CK.int IntKind.i64, CK.int IntKind.i64, CK.int IntKind.i64, CK.int IntKind.i64,
                              CK.int IntKind.i64, CK.int IntKind.i64, CK.int IntKind.i64, CK.int IntKind.i64,
                              CK.int IntKind.i64, CK.int IntKind.i64, CK.int IntKind.i64, CK.int IntKind.i64, CK.bool]
                            s,
                          AV.rsl [CK.int IntKind.i64, CK.int IntKind.i64, CK.int IntKind.i64] d,
                          AV.rsl [CK.int IntKind.i64, CK.int IntKind.i64, CK.int IntKind.i64] p, AV.val (Value.bool b),
                          AV.rsl [CK.int IntKind.i64] f, AV.val (Value.int IntKind.i64 n)]),
                    (1,
                      AO.box
                        [AV.val (Value.int IntKind.i64 x'),
                          AV.rsl
                            [CK.str, CK.int IntKind.i64, CK.str, CK.int IntKind.i64, CK.int IntKind.i64, CK.int IntKind.i64,
                              CK.int IntKind.i64, CK.int IntKind.i64, CK.int IntKind.i64, CK.int IntKind.i64,
                              CK.int IntKind.i64, CK.int IntKind.i64, CK.int IntKind.i64, CK.int IntKind.i64,
                              CK.int IntKind.i64, CK.int IntKind.i64, CK.int IntKind.i64, CK.int IntKind.i64,
                              CK.int IntKind.i64, CK.int IntKind.i64, CK.int IntKind.i64, CK.int IntKind.i64,
                              CK.int IntKind.i64, CK.int IntKind.i64, CK.int IntKind.i64, CK.int IntKind.i64,
                              CK.int IntKind.i64, CK.int IntKind.i64, CK.int IntKind.i64, CK.int IntKind.i64, CK.bool]
                            s',
                          AV.rsl [CK.int IntKind.i64, CK.int IntKind.i64, CK.int IntKind.i64] d',
                          AV.rsl [CK.int IntKind.i64, CK.int IntKind.i64, CK.int IntKind.i64] p', AV.val (Value.bool b'),
                          AV.rsl [CK.int IntKind.i64] f', AV.val (Value.int IntKind.i64 n')])],
                nx := 1000000, ps := [] }))
          False)
        False)
      (LOOP59 L R 9
        {
          tm :=
            [AV.agg
                [AV.val (Value.int IntKind.i64 x),
                  AV.rsl
                    [CK.str, CK.int IntKind.i64, CK.str, CK.int IntKind.i64, CK.int IntKind.i64, CK.int IntKind.i64,
                      CK.int IntKind.i64, CK.int IntKind.i64, CK.int IntKind.i64, CK.int IntKind.i64, CK.int IntKind.i64,
                      CK.int IntKind.i64, CK.int IntKind.i64, CK.int IntKind.i64, CK.int IntKind.i64, CK.int IntKind.i64,
                      CK.int IntKind.i64, CK.int IntKind.i64, CK.int IntKind.i64, CK.int IntKind.i64, CK.int IntKind.i64,
                      CK.int IntKind.i64, CK.int IntKind.i64, CK.int IntKind.i64, CK.int IntKind.i64, CK.int IntKind.i64,
                      CK.int IntKind.i64, CK.int IntKind.i64, CK.int IntKind.i64, CK.int IntKind.i64, CK.bool]
                    s,
                  AV.rsl [CK.int IntKind.i64, CK.int IntKind.i64, CK.int IntKind.i64] d,
                  AV.rsl [CK.int IntKind.i64, CK.int IntKind.i64, CK.int IntKind.i64] p, AV.val (Value.bool b),
                  AV.rsl [CK.int IntKind.i64] f, AV.val (Value.int IntKind.i64 n)],
              AV.agg
                [AV.val (Value.int IntKind.i64 x'),
                  AV.rsl
                    [CK.str, CK.int IntKind.i64, CK.str, CK.int IntKind.i64, CK.int IntKind.i64, CK.int IntKind.i64,
                      CK.int IntKind.i64, CK.int IntKind.i64, CK.int IntKind.i64, CK.int IntKind.i64, CK.int IntKind.i64,
                      CK.int IntKind.i64, CK.int IntKind.i64, CK.int IntKind.i64, CK.int IntKind.i64, CK.int IntKind.i64,
                      CK.int IntKind.i64, CK.int IntKind.i64, CK.int IntKind.i64, CK.int IntKind.i64, CK.int IntKind.i64,
                      CK.int IntKind.i64, CK.int IntKind.i64, CK.int IntKind.i64, CK.int IntKind.i64, CK.int IntKind.i64,
                      CK.int IntKind.i64, CK.int IntKind.i64, CK.int IntKind.i64, CK.int IntKind.i64, CK.bool]
                    s',
                  AV.rsl [CK.int IntKind.i64, CK.int IntKind.i64, CK.int IntKind.i64] d',
                  AV.rsl [CK.int IntKind.i64, CK.int IntKind.i64, CK.int IntKind.i64] p', AV.val (Value.bool b'),
                  AV.rsl [CK.int IntKind.i64] f', AV.val (Value.int IntKind.i64 n')],
              AV.ptr 0 0, AV.ptr 1 0, AV.val (Value.bool false), AV.val (Value.int IntKind.i64 i),
              AV.val (Value.int IntKind.i64 0), AV.val (Value.tuple #[]), AV.ptr 0 0, AV.val (Value.int IntKind.i64 x),
              AV.ptr 1 0, AV.val (Value.int IntKind.i64 x'), AV.val (Value.bool (x != x')), AV.val (Value.bool false),
              AV.ptr 0 4, AV.val (Value.bool b), AV.ptr 1 4, AV.val (Value.bool b'), AV.val (Value.bool !b == b'),
              AV.val (Value.bool !b == b'), AV.val (Value.bool false), AV.ptr 0 6, AV.val (Value.int IntKind.i64 n),
              AV.ptr 1 6, AV.val (Value.int IntKind.i64 n'), AV.val (Value.bool (n != n')), AV.val (Value.bool (n != n')),
              AV.val (Value.bool false), AV.ptr 0 1,
              AV.rsl
                [CK.str, CK.int IntKind.i64, CK.str, CK.int IntKind.i64, CK.int IntKind.i64, CK.int IntKind.i64,
                  CK.int IntKind.i64, CK.int IntKind.i64, CK.int IntKind.i64, CK.int IntKind.i64, CK.int IntKind.i64,
                  CK.int IntKind.i64, CK.int IntKind.i64, CK.int IntKind.i64, CK.int IntKind.i64, CK.int IntKind.i64,
                  CK.int IntKind.i64, CK.int IntKind.i64, CK.int IntKind.i64, CK.int IntKind.i64, CK.int IntKind.i64,
                  CK.int IntKind.i64, CK.int IntKind.i64, CK.int IntKind.i64, CK.int IntKind.i64, CK.int IntKind.i64,
                  CK.int IntKind.i64, CK.int IntKind.i64, CK.int IntKind.i64, CK.int IntKind.i64, CK.bool]
                s,
              AV.val (Value.int IntKind.i64 (↑s.length : Int)), AV.ptr 1 1,
              AV.rsl
                [CK.str, CK.int IntKind.i64, CK.str, CK.int IntKind.i64, CK.int IntKind.i64, CK.int IntKind.i64,
                  CK.int IntKind.i64, CK.int IntKind.i64, CK.int IntKind.i64, CK.int IntKind.i64, CK.int IntKind.i64,
                  CK.int IntKind.i64, CK.int IntKind.i64, CK.int IntKind.i64, CK.int IntKind.i64, CK.int IntKind.i64,
                  CK.int IntKind.i64, CK.int IntKind.i64, CK.int IntKind.i64, CK.int IntKind.i64, CK.int IntKind.i64,
                  CK.int IntKind.i64, CK.int IntKind.i64, CK.int IntKind.i64, CK.int IntKind.i64, CK.int IntKind.i64,
                  CK.int IntKind.i64, CK.int IntKind.i64, CK.int IntKind.i64, CK.int IntKind.i64, CK.bool]
                s',
              AV.val (Value.int IntKind.i64 (↑s'.length : Int)),
              AV.val (Value.bool ((↑s.length : Int) != (↑s'.length : Int))),
              AV.val (Value.bool ((↑s.length : Int) != (↑s'.length : Int))), AV.val (Value.bool false), AV.ptr 0 2,
              AV.rsl [CK.int IntKind.i64, CK.int IntKind.i64, CK.int IntKind.i64] d,
              AV.val (Value.int IntKind.i64 (↑d.length : Int)), AV.ptr 1 2,
              AV.rsl [CK.int IntKind.i64, CK.int IntKind.i64, CK.int IntKind.i64] d',
              AV.val (Value.int IntKind.i64 (↑d'.length : Int)),
              AV.val (Value.bool ((↑d.length : Int) != (↑d'.length : Int))),
              AV.val (Value.bool ((↑d.length : Int) != (↑d'.length : Int))), AV.val (Value.bool false), AV.ptr 0 3,
              AV.rsl [CK.int IntKind.i64, CK.int IntKind.i64, CK.int IntKind.i64] p,
              AV.val (Value.int IntKind.i64 (↑p.length : Int)), AV.ptr 1 3,
              AV.rsl [CK.int IntKind.i64, CK.int IntKind.i64, CK.int IntKind.i64] p',
              AV.val (Value.int IntKind.i64 (↑p'.length : Int)),
              AV.val (Value.bool ((↑p.length : Int) != (↑p'.length : Int))),
              AV.val (Value.bool ((↑p.length : Int) != (↑p'.length : Int))), AV.val (Value.bool false), AV.ptr 0 5,
              AV.rsl [CK.int IntKind.i64] f, AV.ptr 1 5, AV.rsl [CK.int IntKind.i64] f', AV.val (Value.bool (eqR ki f f')),
              AV.val (Value.bool !eqR ki f f'), AV.val (Value.bool !eqR ki f f'), AV.val (Value.int IntKind.i64 i),
              AV.ptr 0 1,
              AV.rsl
                [CK.str, CK.int IntKind.i64, CK.str, CK.int IntKind.i64, CK.int IntKind.i64, CK.int IntKind.i64,
                  CK.int IntKind.i64, CK.int IntKind.i64, CK.int IntKind.i64, CK.int IntKind.i64, CK.int IntKind.i64,
                  CK.int IntKind.i64, CK.int IntKind.i64, CK.int IntKind.i64, CK.int IntKind.i64, CK.int IntKind.i64,
                  CK.int IntKind.i64, CK.int IntKind.i64, CK.int IntKind.i64, CK.int IntKind.i64, CK.int IntKind.i64,
                  CK.int IntKind.i64, CK.int IntKind.i64, CK.int IntKind.i64, CK.int IntKind.i64, CK.int IntKind.i64,
                  CK.int IntKind.i64, CK.int IntKind.i64, CK.int IntKind.i64, CK.int IntKind.i64, CK.bool]
                s,
              AV.val (Value.int IntKind.i64 (↑s.length : Int)), AV.val (Value.bool (decide (i < (↑s.length : Int)))),
              AV.junk, AV.junk, AV.junk, AV.junk, AV.junk, AV.junk, AV.junk, AV.junk, AV.junk, AV.junk, AV.junk, AV.junk,
              AV.junk, AV.junk, AV.junk, AV.junk, AV.junk, AV.junk, AV.junk, AV.junk, AV.junk, AV.junk, AV.junk, AV.junk,
              AV.junk, AV.junk, AV.junk, AV.junk, AV.junk, AV.junk, AV.junk, AV.val (Value.tuple #[]),
              AV.val (Value.tuple #[]), AV.val (Value.tuple #[]), AV.val (Value.tuple #[]), AV.val (Value.tuple #[]),
              AV.val (Value.tuple #[]), AV.val (Value.tuple #[]), AV.val (Value.tuple #[]), AV.val (Value.tuple #[]),
              AV.val (Value.tuple #[]), AV.val (Value.tuple #[]), AV.val (Value.tuple #[]), AV.val (Value.tuple #[]),
              AV.val (Value.tuple #[]), AV.val (Value.tuple #[]), AV.val (Value.tuple #[]), AV.val (Value.tuple #[]),
              AV.val (Value.tuple #[])],
          ob :=
            [(0,
                AO.box
                  [AV.val (Value.int IntKind.i64 x),
                    AV.rsl
                      [CK.str, CK.int IntKind.i64, CK.str, CK.int IntKind.i64, CK.int IntKind.i64, CK.int IntKind.i64,
                        CK.int IntKind.i64, CK.int IntKind.i64, CK.int IntKind.i64, CK.int IntKind.i64, CK.int IntKind.i64,
                        CK.int IntKind.i64, CK.int IntKind.i64, CK.int IntKind.i64, CK.int IntKind.i64, CK.int IntKind.i64,
                        CK.int IntKind.i64, CK.int IntKind.i64, CK.int IntKind.i64, CK.int IntKind.i64, CK.int IntKind.i64,
                        CK.int IntKind.i64, CK.int IntKind.i64, CK.int IntKind.i64, CK.int IntKind.i64, CK.int IntKind.i64,
                        CK.int IntKind.i64, CK.int IntKind.i64, CK.int IntKind.i64, CK.int IntKind.i64, CK.bool]
                      s,
                    AV.rsl [CK.int IntKind.i64, CK.int IntKind.i64, CK.int IntKind.i64] d,
                    AV.rsl [CK.int IntKind.i64, CK.int IntKind.i64, CK.int IntKind.i64] p, AV.val (Value.bool b),
                    AV.rsl [CK.int IntKind.i64] f, AV.val (Value.int IntKind.i64 n)]),
              (1,
                AO.box
                  [AV.val (Value.int IntKind.i64 x'),
                    AV.rsl
                      [CK.str, CK.int IntKind.i64, CK.str, CK.int IntKind.i64, CK.int IntKind.i64, CK.int IntKind.i64,
                        CK.int IntKind.i64, CK.int IntKind.i64, CK.int IntKind.i64, CK.int IntKind.i64, CK.int IntKind.i64,
                        CK.int IntKind.i64, CK.int IntKind.i64, CK.int IntKind.i64, CK.int IntKind.i64, CK.int IntKind.i64,
                        CK.int IntKind.i64, CK.int IntKind.i64, CK.int IntKind.i64, CK.int IntKind.i64, CK.int IntKind.i64,
                        CK.int IntKind.i64, CK.int IntKind.i64, CK.int IntKind.i64, CK.int IntKind.i64, CK.int IntKind.i64,
                        CK.int IntKind.i64, CK.int IntKind.i64, CK.int IntKind.i64, CK.int IntKind.i64, CK.bool]
                      s',
                    AV.rsl [CK.int IntKind.i64, CK.int IntKind.i64, CK.int IntKind.i64] d',
                    AV.rsl [CK.int IntKind.i64, CK.int IntKind.i64, CK.int IntKind.i64] p', AV.val (Value.bool b'),
                    AV.rsl [CK.int IntKind.i64] f', AV.val (Value.int IntKind.i64 n')])],
          nx := 1000000, ps := [] })) := by kernel_rfl
def st59b (x : Int) (s : List (Elem kc)) (d p : List (Elem k3)) (b : Bool) (f : List (Elem ki)) (n : Int) (x' : Int) (s' : List (Elem kc)) (d' p' : List (Elem k3)) (b' : Bool) (f' : List (Elem ki)) (n' : Int) (i j : Int) : St :=
  ⟨[AV.agg [AV.val (Value.int IntKind.i64 x), AV.rsl [CK.str, CK.int IntKind.i64, CK.str, CK.int IntKind.i64, CK.int IntKind.i64, CK.int IntKind.i64, CK.int IntKind.i64, CK.int IntKind.i64, CK.int IntKind.i64, CK.int IntKind.i64, CK.int IntKind.i64, CK.int IntKind.i64, CK.int IntKind.i64, CK.int IntKind.i64, CK.int IntKind.i64, CK.int IntKind.i64, CK.int IntKind.i64, CK.int IntKind.i64, CK.int IntKind.i64, CK.int IntKind.i64, CK.int IntKind.i64, CK.int IntKind.i64, CK.int IntKind.i64, CK.int IntKind.i64, CK.int IntKind.i64, CK.int IntKind.i64, CK.int IntKind.i64, CK.int IntKind.i64, CK.int IntKind.i64, CK.int IntKind.i64, CK.bool] s, AV.rsl [CK.int IntKind.i64, CK.int IntKind.i64, CK.int IntKind.i64] d, AV.rsl [CK.int IntKind.i64, CK.int IntKind.i64, CK.int IntKind.i64] p, AV.val (Value.bool b), AV.rsl [CK.int IntKind.i64] f, AV.val (Value.int IntKind.i64 n)], AV.agg [AV.val (Value.int IntKind.i64 x'), AV.rsl [CK.str, CK.int IntKind.i64, CK.str, CK.int IntKind.i64, CK.int IntKind.i64, CK.int IntKind.i64, CK.int IntKind.i64, CK.int IntKind.i64, CK.int IntKind.i64, CK.int IntKind.i64, CK.int IntKind.i64, CK.int IntKind.i64, CK.int IntKind.i64, CK.int IntKind.i64, CK.int IntKind.i64, CK.int IntKind.i64, CK.int IntKind.i64, CK.int IntKind.i64, CK.int IntKind.i64, CK.int IntKind.i64, CK.int IntKind.i64, CK.int IntKind.i64, CK.int IntKind.i64, CK.int IntKind.i64, CK.int IntKind.i64, CK.int IntKind.i64, CK.int IntKind.i64, CK.int IntKind.i64, CK.int IntKind.i64, CK.int IntKind.i64, CK.bool] s', AV.rsl [CK.int IntKind.i64, CK.int IntKind.i64, CK.int IntKind.i64] d', AV.rsl [CK.int IntKind.i64, CK.int IntKind.i64, CK.int IntKind.i64] p', AV.val (Value.bool b'), AV.rsl [CK.int IntKind.i64] f', AV.val (Value.int IntKind.i64 n')], AV.ptr 0 0, AV.ptr 1 0, AV.val (Value.bool false), AV.val (Value.int IntKind.i64 i), .val (.int .i64 j), AV.val (Value.tuple #[]), AV.ptr 0 0, AV.val (Value.int IntKind.i64 x), AV.ptr 1 0, AV.val (Value.int IntKind.i64 x'), AV.val (Value.bool (x != x')), AV.val (Value.bool false), AV.ptr 0 4, AV.val (Value.bool b), AV.ptr 1 4, AV.val (Value.bool b'), AV.val (Value.bool !b == b'), AV.val (Value.bool !b == b'), AV.val (Value.bool false), AV.ptr 0 6, AV.val (Value.int IntKind.i64 n), AV.ptr 1 6, AV.val (Value.int IntKind.i64 n'), AV.val (Value.bool (n != n')), AV.val (Value.bool (n != n')), AV.val (Value.bool false), AV.ptr 0 1, AV.rsl [CK.str, CK.int IntKind.i64, CK.str, CK.int IntKind.i64, CK.int IntKind.i64, CK.int IntKind.i64, CK.int IntKind.i64, CK.int IntKind.i64, CK.int IntKind.i64, CK.int IntKind.i64, CK.int IntKind.i64, CK.int IntKind.i64, CK.int IntKind.i64, CK.int IntKind.i64, CK.int IntKind.i64, CK.int IntKind.i64, CK.int IntKind.i64, CK.int IntKind.i64, CK.int IntKind.i64, CK.int IntKind.i64, CK.int IntKind.i64, CK.int IntKind.i64, CK.int IntKind.i64, CK.int IntKind.i64, CK.int IntKind.i64, CK.int IntKind.i64, CK.int IntKind.i64, CK.int IntKind.i64, CK.int IntKind.i64, CK.int IntKind.i64, CK.bool] s, AV.val (Value.int IntKind.i64 (↑s.length : Int)), AV.ptr 1 1, AV.rsl [CK.str, CK.int IntKind.i64, CK.str, CK.int IntKind.i64, CK.int IntKind.i64, CK.int IntKind.i64, CK.int IntKind.i64, CK.int IntKind.i64, CK.int IntKind.i64, CK.int IntKind.i64, CK.int IntKind.i64, CK.int IntKind.i64, CK.int IntKind.i64, CK.int IntKind.i64, CK.int IntKind.i64, CK.int IntKind.i64, CK.int IntKind.i64, CK.int IntKind.i64, CK.int IntKind.i64, CK.int IntKind.i64, CK.int IntKind.i64, CK.int IntKind.i64, CK.int IntKind.i64, CK.int IntKind.i64, CK.int IntKind.i64, CK.int IntKind.i64, CK.int IntKind.i64, CK.int IntKind.i64, CK.int IntKind.i64, CK.int IntKind.i64, CK.bool] s', AV.val (Value.int IntKind.i64 (↑s'.length : Int)), AV.val (Value.bool ((↑s.length : Int) != (↑s'.length : Int))), AV.val (Value.bool ((↑s.length : Int) != (↑s'.length : Int))), AV.val (Value.bool false), AV.ptr 0 2, AV.rsl [CK.int IntKind.i64, CK.int IntKind.i64, CK.int IntKind.i64] d, AV.val (Value.int IntKind.i64 (↑d.length : Int)), AV.ptr 1 2, AV.rsl [CK.int IntKind.i64, CK.int IntKind.i64, CK.int IntKind.i64] d', AV.val (Value.int IntKind.i64 (↑d'.length : Int)), AV.val (Value.bool ((↑d.length : Int) != (↑d'.length : Int))), AV.val (Value.bool ((↑d.length : Int) != (↑d'.length : Int))), AV.val (Value.bool false), AV.ptr 0 3, AV.rsl [CK.int IntKind.i64, CK.int IntKind.i64, CK.int IntKind.i64] p, AV.val (Value.int IntKind.i64 (↑p.length : Int)), AV.ptr 1 3, AV.rsl [CK.int IntKind.i64, CK.int IntKind.i64, CK.int IntKind.i64] p', AV.val (Value.int IntKind.i64 (↑p'.length : Int)), AV.val (Value.bool ((↑p.length : Int) != (↑p'.length : Int))), AV.val (Value.bool ((↑p.length : Int) != (↑p'.length : Int))), AV.val (Value.bool false), AV.ptr 0 5, AV.rsl [CK.int IntKind.i64] f, AV.ptr 1 5, AV.rsl [CK.int IntKind.i64] f', AV.val (Value.bool (eqR ki f f')), AV.val (Value.bool !eqR ki f f'), AV.val (Value.bool !eqR ki f f'), AV.val (Value.int IntKind.i64 i), AV.ptr 0 1, AV.rsl [CK.str, CK.int IntKind.i64, CK.str, CK.int IntKind.i64, CK.int IntKind.i64, CK.int IntKind.i64, CK.int IntKind.i64, CK.int IntKind.i64, CK.int IntKind.i64, CK.int IntKind.i64, CK.int IntKind.i64, CK.int IntKind.i64, CK.int IntKind.i64, CK.int IntKind.i64, CK.int IntKind.i64, CK.int IntKind.i64, CK.int IntKind.i64, CK.int IntKind.i64, CK.int IntKind.i64, CK.int IntKind.i64, CK.int IntKind.i64, CK.int IntKind.i64, CK.int IntKind.i64, CK.int IntKind.i64, CK.int IntKind.i64, CK.int IntKind.i64, CK.int IntKind.i64, CK.int IntKind.i64, CK.int IntKind.i64, CK.int IntKind.i64, CK.bool] s, AV.val (Value.int IntKind.i64 (↑s.length : Int)), AV.val (Value.bool (decide (i < (↑s.length : Int)))), AV.junk, AV.junk, AV.junk, AV.junk, AV.junk, AV.junk, AV.junk, AV.junk, AV.junk, AV.junk, AV.junk, AV.junk, AV.junk, AV.junk, AV.junk, AV.junk, AV.junk, AV.junk, AV.junk, AV.junk, AV.junk, AV.junk, AV.junk, AV.junk, AV.junk, AV.junk, AV.junk, AV.junk, AV.junk, AV.junk, AV.junk, AV.val (Value.tuple #[]), AV.val (Value.tuple #[]), AV.val (Value.tuple #[]), AV.val (Value.tuple #[]), AV.val (Value.tuple #[]), AV.val (Value.tuple #[]), AV.val (Value.tuple #[]), AV.val (Value.tuple #[]), AV.val (Value.tuple #[]), AV.val (Value.tuple #[]), AV.val (Value.tuple #[]), AV.val (Value.tuple #[]), AV.val (Value.tuple #[]), AV.val (Value.tuple #[]), AV.val (Value.tuple #[]), AV.val (Value.tuple #[]), AV.val (Value.tuple #[]), AV.val (Value.tuple #[])],
    [(0, AO.box [AV.val (Value.int IntKind.i64 x), AV.rsl [CK.str, CK.int IntKind.i64, CK.str, CK.int IntKind.i64, CK.int IntKind.i64, CK.int IntKind.i64, CK.int IntKind.i64, CK.int IntKind.i64, CK.int IntKind.i64, CK.int IntKind.i64, CK.int IntKind.i64, CK.int IntKind.i64, CK.int IntKind.i64, CK.int IntKind.i64, CK.int IntKind.i64, CK.int IntKind.i64, CK.int IntKind.i64, CK.int IntKind.i64, CK.int IntKind.i64, CK.int IntKind.i64, CK.int IntKind.i64, CK.int IntKind.i64, CK.int IntKind.i64, CK.int IntKind.i64, CK.int IntKind.i64, CK.int IntKind.i64, CK.int IntKind.i64, CK.int IntKind.i64, CK.int IntKind.i64, CK.int IntKind.i64, CK.bool] s, AV.rsl [CK.int IntKind.i64, CK.int IntKind.i64, CK.int IntKind.i64] d, AV.rsl [CK.int IntKind.i64, CK.int IntKind.i64, CK.int IntKind.i64] p, AV.val (Value.bool b), AV.rsl [CK.int IntKind.i64] f, AV.val (Value.int IntKind.i64 n)]), (1, AO.box [AV.val (Value.int IntKind.i64 x'), AV.rsl [CK.str, CK.int IntKind.i64, CK.str, CK.int IntKind.i64, CK.int IntKind.i64, CK.int IntKind.i64, CK.int IntKind.i64, CK.int IntKind.i64, CK.int IntKind.i64, CK.int IntKind.i64, CK.int IntKind.i64, CK.int IntKind.i64, CK.int IntKind.i64, CK.int IntKind.i64, CK.int IntKind.i64, CK.int IntKind.i64, CK.int IntKind.i64, CK.int IntKind.i64, CK.int IntKind.i64, CK.int IntKind.i64, CK.int IntKind.i64, CK.int IntKind.i64, CK.int IntKind.i64, CK.int IntKind.i64, CK.int IntKind.i64, CK.int IntKind.i64, CK.int IntKind.i64, CK.int IntKind.i64, CK.int IntKind.i64, CK.int IntKind.i64, CK.bool] s', AV.rsl [CK.int IntKind.i64, CK.int IntKind.i64, CK.int IntKind.i64] d', AV.rsl [CK.int IntKind.i64, CK.int IntKind.i64, CK.int IntKind.i64] p', AV.val (Value.bool b'), AV.rsl [CK.int IntKind.i64] f', AV.val (Value.int IntKind.i64 n')])], 1000000, []⟩
theorem b59b (L : Lp) (R : Option Res → Prop) (N : St → Prop) (x : Int) (s : List (Elem kc)) (d p : List (Elem k3)) (b : Bool) (f : List (Elem ki)) (n : Int) (x' : Int) (s' : List (Elem kc)) (d' p' : List (Elem k3)) (b' : Bool) (f' : List (Elem ki)) (n' : Int) (i j : Int) : (evP E59 G59 L (lp59 9) (st59b x s d p b f n x' s' d' p' b' f' n' i j) (rk59 L R 9 N)) = (
    br (decide (j < (↑d.length : Int)))
      (br (decide (0 ≤ j ∧ j < (↑d.length : Int)))
        (br (decide (0 ≤ j ∧ j < (↑d'.length : Int)))
          (br
            (!elemEq
                [CK.int IntKind.i64, CK.int IntKind.i64, CK.int IntKind.i64]
                (d.getD j.toNat (edflt [CK.int IntKind.i64, CK.int IntKind.i64, CK.int IntKind.i64]))
                (d'.getD j.toNat (edflt [CK.int IntKind.i64, CK.int IntKind.i64, CK.int IntKind.i64])))
            (R (some { av := AV.val (Value.bool false), obs := [], outs := [] }))
            (N
              {
                tm :=
                  [AV.agg
                      [AV.val (Value.int IntKind.i64 x),
                        AV.rsl
                          [CK.str, CK.int IntKind.i64, CK.str, CK.int IntKind.i64, CK.int IntKind.i64, CK.int IntKind.i64,
                            CK.int IntKind.i64, CK.int IntKind.i64, CK.int IntKind.i64, CK.int IntKind.i64,
                            CK.int IntKind.i64, CK.int IntKind.i64, CK.int IntKind.i64, CK.int IntKind.i64,
                            CK.int IntKind.i64, CK.int IntKind.i64, CK.int IntKind.i64, CK.int IntKind.i64,
                            CK.int IntKind.i64, CK.int IntKind.i64, CK.int IntKind.i64, CK.int IntKind.i64,
                            CK.int IntKind.i64, CK.int IntKind.i64, CK.int IntKind.i64, CK.int IntKind.i64,
                            CK.int IntKind.i64, CK.int IntKind.i64, CK.int IntKind.i64, CK.int IntKind.i64, CK.bool]
                          s,
                        AV.rsl [CK.int IntKind.i64, CK.int IntKind.i64, CK.int IntKind.i64] d,
                        AV.rsl [CK.int IntKind.i64, CK.int IntKind.i64, CK.int IntKind.i64] p, AV.val (Value.bool b),
                        AV.rsl [CK.int IntKind.i64] f, AV.val (Value.int IntKind.i64 n)],
                    AV.agg
                      [AV.val (Value.int IntKind.i64 x'),
                        AV.rsl
                          [CK.str, CK.int IntKind.i64, CK.str, CK.int IntKind.i64, CK.int IntKind.i64, CK.int IntKind.i64,
                            CK.int IntKind.i64, CK.int IntKind.i64, CK.int IntKind.i64, CK.int IntKind.i64,
                            CK.int IntKind.i64, CK.int IntKind.i64, CK.int IntKind.i64, CK.int IntKind.i64,
                            CK.int IntKind.i64, CK.int IntKind.i64, CK.int IntKind.i64, CK.int IntKind.i64,
                            CK.int IntKind.i64, CK.int IntKind.i64, CK.int IntKind.i64, CK.int IntKind.i64,
                            CK.int IntKind.i64, CK.int IntKind.i64, CK.int IntKind.i64, CK.int IntKind.i64,
                            CK.int IntKind.i64, CK.int IntKind.i64, CK.int IntKind.i64, CK.int IntKind.i64, CK.bool]
                          s',
                        AV.rsl [CK.int IntKind.i64, CK.int IntKind.i64, CK.int IntKind.i64] d',
                        AV.rsl [CK.int IntKind.i64, CK.int IntKind.i64, CK.int IntKind.i64] p', AV.val (Value.bool b'),
                        AV.rsl [CK.int IntKind.i64] f', AV.val (Value.int IntKind.i64 n')],
                    AV.ptr 0 0, AV.ptr 1 0, AV.val (Value.bool false), AV.val (Value.int IntKind.i64 i),
                    AV.val (Value.int IntKind.i64 (IntKind.i64.wrap (j + 1))), AV.val (Value.tuple #[]), AV.ptr 0 0,
                    AV.val (Value.int IntKind.i64 x), AV.ptr 1 0, AV.val (Value.int IntKind.i64 x'),
                    AV.val (Value.bool (x != x')), AV.val (Value.bool false), AV.ptr 0 4, AV.val (Value.bool b), AV.ptr 1 4,
                    AV.val (Value.bool b'), AV.val (Value.bool !b == b'), AV.val (Value.bool !b == b'),
                    AV.val (Value.bool false), AV.ptr 0 6, AV.val (Value.int IntKind.i64 n), AV.ptr 1 6,
                    AV.val (Value.int IntKind.i64 n'), AV.val (Value.bool (n != n')), AV.val (Value.bool (n != n')),
                    AV.val (Value.bool false), AV.ptr 0 1,
                    AV.rsl
                      [CK.str, CK.int IntKind.i64, CK.str, CK.int IntKind.i64, CK.int IntKind.i64, CK.int IntKind.i64,
                        CK.int IntKind.i64, CK.int IntKind.i64, CK.int IntKind.i64, CK.int IntKind.i64, CK.int IntKind.i64,
                        CK.int IntKind.i64, CK.int IntKind.i64, CK.int IntKind.i64, CK.int IntKind.i64, CK.int IntKind.i64,
                        CK.int IntKind.i64, CK.int IntKind.i64, CK.int IntKind.i64, CK.int IntKind.i64, CK.int IntKind.i64,
                        CK.int IntKind.i64, CK.int IntKind.i64, CK.int IntKind.i64, CK.int IntKind.i64, CK.int IntKind.i64,
                        CK.int IntKind.i64, CK.int IntKind.i64, CK.int IntKind.i64, CK.int IntKind.i64, CK.bool]
                      s,
                    AV.val (Value.int IntKind.i64 (↑s.length : Int)), AV.ptr 1 1,
                    AV.rsl
                      [CK.str, CK.int IntKind.i64, CK.str, CK.int IntKind.i64, CK.int IntKind.i64, CK.int IntKind.i64,
                        CK.int IntKind.i64, CK.int IntKind.i64, CK.int IntKind.i64, CK.int IntKind.i64, CK.int IntKind.i64,
                        CK.int IntKind.i64, CK.int IntKind.i64, CK.int IntKind.i64, CK.int IntKind.i64, CK.int IntKind.i64,
                        CK.int IntKind.i64, CK.int IntKind.i64, CK.int IntKind.i64, CK.int IntKind.i64, CK.int IntKind.i64,
                        CK.int IntKind.i64, CK.int IntKind.i64, CK.int IntKind.i64, CK.int IntKind.i64, CK.int IntKind.i64,
                        CK.int IntKind.i64, CK.int IntKind.i64, CK.int IntKind.i64, CK.int IntKind.i64, CK.bool]
                      s',
                    AV.val (Value.int IntKind.i64 (↑s'.length : Int)),
                    AV.val (Value.bool ((↑s.length : Int) != (↑s'.length : Int))),
                    AV.val (Value.bool ((↑s.length : Int) != (↑s'.length : Int))), AV.val (Value.bool false), AV.ptr 0 2,
                    AV.rsl [CK.int IntKind.i64, CK.int IntKind.i64, CK.int IntKind.i64] d,
                    AV.val (Value.int IntKind.i64 (↑d.length : Int)), AV.ptr 1 2,
                    AV.rsl [CK.int IntKind.i64, CK.int IntKind.i64, CK.int IntKind.i64] d',
                    AV.val (Value.int IntKind.i64 (↑d'.length : Int)),
                    AV.val (Value.bool ((↑d.length : Int) != (↑d'.length : Int))),
                    AV.val (Value.bool ((↑d.length : Int) != (↑d'.length : Int))), AV.val (Value.bool false), AV.ptr 0 3,
                    AV.rsl [CK.int IntKind.i64, CK.int IntKind.i64, CK.int IntKind.i64] p,
                    AV.val (Value.int IntKind.i64 (↑p.length : Int)), AV.ptr 1 3,
                    AV.rsl [CK.int IntKind.i64, CK.int IntKind.i64, CK.int IntKind.i64] p',
                    AV.val (Value.int IntKind.i64 (↑p'.length : Int)),
                    AV.val (Value.bool ((↑p.length : Int) != (↑p'.length : Int))),
                    AV.val (Value.bool ((↑p.length : Int) != (↑p'.length : Int))), AV.val (Value.bool false), AV.ptr 0 5,
                    AV.rsl [CK.int IntKind.i64] f, AV.ptr 1 5, AV.rsl [CK.int IntKind.i64] f',
                    AV.val (Value.bool (eqR ki f f')), AV.val (Value.bool !eqR ki f f'), AV.val (Value.bool !eqR ki f f'),
                    AV.val (Value.int IntKind.i64 i), AV.ptr 0 1,
                    AV.rsl
                      [CK.str, CK.int IntKind.i64, CK.str, CK.int IntKind.i64, CK.int IntKind.i64, CK.int IntKind.i64,
                        CK.int IntKind.i64, CK.int IntKind.i64, CK.int IntKind.i64, CK.int IntKind.i64, CK.int IntKind.i64,
                        CK.int IntKind.i64, CK.int IntKind.i64, CK.int IntKind.i64, CK.int IntKind.i64, CK.int IntKind.i64,
                        CK.int IntKind.i64, CK.int IntKind.i64, CK.int IntKind.i64, CK.int IntKind.i64, CK.int IntKind.i64,
                        CK.int IntKind.i64, CK.int IntKind.i64, CK.int IntKind.i64, CK.int IntKind.i64, CK.int IntKind.i64,
                        CK.int IntKind.i64, CK.int IntKind.i64, CK.int IntKind.i64, CK.int IntKind.i64, CK.bool]
                      s,
                    AV.val (Value.int IntKind.i64 (↑s.length : Int)), AV.val (Value.bool (decide (i < (↑s.length : Int)))),
                    AV.junk, AV.junk, AV.junk, AV.junk, AV.junk, AV.junk, AV.junk, AV.junk, AV.junk, AV.junk, AV.junk,
                    AV.junk, AV.junk, AV.junk, AV.junk, AV.junk, AV.junk, AV.junk, AV.junk, AV.junk, AV.junk, AV.junk,
                    AV.junk, AV.junk, AV.junk, AV.junk, AV.junk, AV.junk, AV.junk, AV.junk, AV.junk,
                    AV.val (Value.tuple #[]), AV.val (Value.tuple #[]), AV.val (Value.tuple #[]), AV.val (Value.tuple #[]),
                    AV.val (Value.tuple #[]), AV.val (Value.tuple #[]), AV.val (Value.tuple #[]), AV.val (Value.tuple #[]),
                    AV.val (Value.tuple #[]), AV.val (Value.tuple #[]), AV.val (Value.tuple #[]), AV.val (Value.tuple #[]),
                    AV.val (Value.tuple #[]), AV.val (Value.tuple #[]), AV.val (Value.tuple #[]), AV.val (Value.tuple #[]),
                    AV.val (Value.tuple #[]), AV.val (Value.tuple #[])],
                ob :=
                  [(0,
                      AO.box
                        [AV.val (Value.int IntKind.i64 x),
                          AV.rsl
                            [CK.str, CK.int IntKind.i64, CK.str, CK.int IntKind.i64, CK.int IntKind.i64, CK.int IntKind.i64,
                              CK.int IntKind.i64, CK.int IntKind.i64, CK.int IntKind.i64, CK.int IntKind.i64,
                              CK.int IntKind.i64, CK.int IntKind.i64, CK.int IntKind.i64, CK.int IntKind.i64,
                              CK.int IntKind.i64, CK.int IntKind.i64, CK.int IntKind.i64, CK.int IntKind.i64,
                              CK.int IntKind.i64, CK.int IntKind.i64, CK.int IntKind.i64, CK.int IntKind.i64,
                              CK.int IntKind.i64, CK.int IntKind.i64, CK.int IntKind.i64, CK.int IntKind.i64,
                              CK.int IntKind.i64, CK.int IntKind.i64, CK.int IntKind.i64, CK.int IntKind.i64, CK.bool]
                            s,
                          AV.rsl [CK.int IntKind.i64, CK.int IntKind.i64, CK.int IntKind.i64] d,
                          AV.rsl [CK.int IntKind.i64, CK.int IntKind.i64, CK.int IntKind.i64] p, AV.val (Value.bool b),
                          AV.rsl [CK.int IntKind.i64] f, AV.val (Value.int IntKind.i64 n)]),
                    (1,
                      AO.box
                        [AV.val (Value.int IntKind.i64 x'),
                          AV.rsl
                            [CK.str, CK.int IntKind.i64, CK.str, CK.int IntKind.i64, CK.int IntKind.i64, CK.int IntKind.i64,
                              CK.int IntKind.i64, CK.int IntKind.i64, CK.int IntKind.i64, CK.int IntKind.i64,
                              CK.int IntKind.i64, CK.int IntKind.i64, CK.int IntKind.i64, CK.int IntKind.i64,
                              CK.int IntKind.i64, CK.int IntKind.i64, CK.int IntKind.i64, CK.int IntKind.i64,
                              CK.int IntKind.i64, CK.int IntKind.i64, CK.int IntKind.i64, CK.int IntKind.i64,
                              CK.int IntKind.i64, CK.int IntKind.i64, CK.int IntKind.i64, CK.int IntKind.i64,
                              CK.int IntKind.i64, CK.int IntKind.i64, CK.int IntKind.i64, CK.int IntKind.i64, CK.bool]
                            s',
                          AV.rsl [CK.int IntKind.i64, CK.int IntKind.i64, CK.int IntKind.i64] d',
                          AV.rsl [CK.int IntKind.i64, CK.int IntKind.i64, CK.int IntKind.i64] p', AV.val (Value.bool b'),
                          AV.rsl [CK.int IntKind.i64] f', AV.val (Value.int IntKind.i64 n')])],
                nx := 1000000, ps := [] }))
          False)
        False)
      (LOOP59 L R 14
        {
          tm :=
            [AV.agg
                [AV.val (Value.int IntKind.i64 x),
                  AV.rsl
                    [CK.str, CK.int IntKind.i64, CK.str, CK.int IntKind.i64, CK.int IntKind.i64, CK.int IntKind.i64,
                      CK.int IntKind.i64, CK.int IntKind.i64, CK.int IntKind.i64, CK.int IntKind.i64, CK.int IntKind.i64,
                      CK.int IntKind.i64, CK.int IntKind.i64, CK.int IntKind.i64, CK.int IntKind.i64, CK.int IntKind.i64,
                      CK.int IntKind.i64, CK.int IntKind.i64, CK.int IntKind.i64, CK.int IntKind.i64, CK.int IntKind.i64,
                      CK.int IntKind.i64, CK.int IntKind.i64, CK.int IntKind.i64, CK.int IntKind.i64, CK.int IntKind.i64,
                      CK.int IntKind.i64, CK.int IntKind.i64, CK.int IntKind.i64, CK.int IntKind.i64, CK.bool]
                    s,
                  AV.rsl [CK.int IntKind.i64, CK.int IntKind.i64, CK.int IntKind.i64] d,
                  AV.rsl [CK.int IntKind.i64, CK.int IntKind.i64, CK.int IntKind.i64] p, AV.val (Value.bool b),
                  AV.rsl [CK.int IntKind.i64] f, AV.val (Value.int IntKind.i64 n)],
              AV.agg
                [AV.val (Value.int IntKind.i64 x'),
                  AV.rsl
                    [CK.str, CK.int IntKind.i64, CK.str, CK.int IntKind.i64, CK.int IntKind.i64, CK.int IntKind.i64,
                      CK.int IntKind.i64, CK.int IntKind.i64, CK.int IntKind.i64, CK.int IntKind.i64, CK.int IntKind.i64,
                      CK.int IntKind.i64, CK.int IntKind.i64, CK.int IntKind.i64, CK.int IntKind.i64, CK.int IntKind.i64,
                      CK.int IntKind.i64, CK.int IntKind.i64, CK.int IntKind.i64, CK.int IntKind.i64, CK.int IntKind.i64,
                      CK.int IntKind.i64, CK.int IntKind.i64, CK.int IntKind.i64, CK.int IntKind.i64, CK.int IntKind.i64,
                      CK.int IntKind.i64, CK.int IntKind.i64, CK.int IntKind.i64, CK.int IntKind.i64, CK.bool]
                    s',
                  AV.rsl [CK.int IntKind.i64, CK.int IntKind.i64, CK.int IntKind.i64] d',
                  AV.rsl [CK.int IntKind.i64, CK.int IntKind.i64, CK.int IntKind.i64] p', AV.val (Value.bool b'),
                  AV.rsl [CK.int IntKind.i64] f', AV.val (Value.int IntKind.i64 n')],
              AV.ptr 0 0, AV.ptr 1 0, AV.val (Value.bool false), AV.val (Value.int IntKind.i64 i),
              AV.val (Value.int IntKind.i64 j), AV.val (Value.int IntKind.i64 0), AV.ptr 0 0,
              AV.val (Value.int IntKind.i64 x), AV.ptr 1 0, AV.val (Value.int IntKind.i64 x'),
              AV.val (Value.bool (x != x')), AV.val (Value.bool false), AV.ptr 0 4, AV.val (Value.bool b), AV.ptr 1 4,
              AV.val (Value.bool b'), AV.val (Value.bool !b == b'), AV.val (Value.bool !b == b'), AV.val (Value.bool false),
              AV.ptr 0 6, AV.val (Value.int IntKind.i64 n), AV.ptr 1 6, AV.val (Value.int IntKind.i64 n'),
              AV.val (Value.bool (n != n')), AV.val (Value.bool (n != n')), AV.val (Value.bool false), AV.ptr 0 1,
              AV.rsl
                [CK.str, CK.int IntKind.i64, CK.str, CK.int IntKind.i64, CK.int IntKind.i64, CK.int IntKind.i64,
                  CK.int IntKind.i64, CK.int IntKind.i64, CK.int IntKind.i64, CK.int IntKind.i64, CK.int IntKind.i64,
                  CK.int IntKind.i64, CK.int IntKind.i64, CK.int IntKind.i64, CK.int IntKind.i64, CK.int IntKind.i64,
                  CK.int IntKind.i64, CK.int IntKind.i64, CK.int IntKind.i64, CK.int IntKind.i64, CK.int IntKind.i64,
                  CK.int IntKind.i64, CK.int IntKind.i64, CK.int IntKind.i64, CK.int IntKind.i64, CK.int IntKind.i64,
                  CK.int IntKind.i64, CK.int IntKind.i64, CK.int IntKind.i64, CK.int IntKind.i64, CK.bool]
                s,
              AV.val (Value.int IntKind.i64 (↑s.length : Int)), AV.ptr 1 1,
              AV.rsl
                [CK.str, CK.int IntKind.i64, CK.str, CK.int IntKind.i64, CK.int IntKind.i64, CK.int IntKind.i64,
                  CK.int IntKind.i64, CK.int IntKind.i64, CK.int IntKind.i64, CK.int IntKind.i64, CK.int IntKind.i64,
                  CK.int IntKind.i64, CK.int IntKind.i64, CK.int IntKind.i64, CK.int IntKind.i64, CK.int IntKind.i64,
                  CK.int IntKind.i64, CK.int IntKind.i64, CK.int IntKind.i64, CK.int IntKind.i64, CK.int IntKind.i64,
                  CK.int IntKind.i64, CK.int IntKind.i64, CK.int IntKind.i64, CK.int IntKind.i64, CK.int IntKind.i64,
                  CK.int IntKind.i64, CK.int IntKind.i64, CK.int IntKind.i64, CK.int IntKind.i64, CK.bool]
                s',
              AV.val (Value.int IntKind.i64 (↑s'.length : Int)),
              AV.val (Value.bool ((↑s.length : Int) != (↑s'.length : Int))),
              AV.val (Value.bool ((↑s.length : Int) != (↑s'.length : Int))), AV.val (Value.bool false), AV.ptr 0 2,
              AV.rsl [CK.int IntKind.i64, CK.int IntKind.i64, CK.int IntKind.i64] d,
              AV.val (Value.int IntKind.i64 (↑d.length : Int)), AV.ptr 1 2,
              AV.rsl [CK.int IntKind.i64, CK.int IntKind.i64, CK.int IntKind.i64] d',
              AV.val (Value.int IntKind.i64 (↑d'.length : Int)),
              AV.val (Value.bool ((↑d.length : Int) != (↑d'.length : Int))),
              AV.val (Value.bool ((↑d.length : Int) != (↑d'.length : Int))), AV.val (Value.bool false), AV.ptr 0 3,
              AV.rsl [CK.int IntKind.i64, CK.int IntKind.i64, CK.int IntKind.i64] p,
              AV.val (Value.int IntKind.i64 (↑p.length : Int)), AV.ptr 1 3,
              AV.rsl [CK.int IntKind.i64, CK.int IntKind.i64, CK.int IntKind.i64] p',
              AV.val (Value.int IntKind.i64 (↑p'.length : Int)),
              AV.val (Value.bool ((↑p.length : Int) != (↑p'.length : Int))),
              AV.val (Value.bool ((↑p.length : Int) != (↑p'.length : Int))), AV.val (Value.bool false), AV.ptr 0 5,
              AV.rsl [CK.int IntKind.i64] f, AV.ptr 1 5, AV.rsl [CK.int IntKind.i64] f', AV.val (Value.bool (eqR ki f f')),
              AV.val (Value.bool !eqR ki f f'), AV.val (Value.bool !eqR ki f f'), AV.val (Value.int IntKind.i64 i),
              AV.ptr 0 1,
              AV.rsl
                [CK.str, CK.int IntKind.i64, CK.str, CK.int IntKind.i64, CK.int IntKind.i64, CK.int IntKind.i64,
                  CK.int IntKind.i64, CK.int IntKind.i64, CK.int IntKind.i64, CK.int IntKind.i64, CK.int IntKind.i64,
                  CK.int IntKind.i64, CK.int IntKind.i64, CK.int IntKind.i64, CK.int IntKind.i64, CK.int IntKind.i64,
                  CK.int IntKind.i64, CK.int IntKind.i64, CK.int IntKind.i64, CK.int IntKind.i64, CK.int IntKind.i64,
                  CK.int IntKind.i64, CK.int IntKind.i64, CK.int IntKind.i64, CK.int IntKind.i64, CK.int IntKind.i64,
                  CK.int IntKind.i64, CK.int IntKind.i64, CK.int IntKind.i64, CK.int IntKind.i64, CK.bool]
                s,
              AV.val (Value.int IntKind.i64 (↑s.length : Int)), AV.val (Value.bool (decide (i < (↑s.length : Int)))),
              AV.junk, AV.junk, AV.junk, AV.junk, AV.junk, AV.junk, AV.junk, AV.junk, AV.junk, AV.junk, AV.junk, AV.junk,
              AV.junk, AV.val (Value.int IntKind.i64 j), AV.ptr 0 2,
              AV.rsl [CK.int IntKind.i64, CK.int IntKind.i64, CK.int IntKind.i64] d,
              AV.val (Value.int IntKind.i64 (↑d.length : Int)), AV.val (Value.bool (decide (j < (↑d.length : Int)))),
              AV.junk, AV.junk, AV.junk, AV.junk, AV.junk, AV.junk, AV.junk, AV.junk, AV.junk, AV.junk, AV.junk, AV.junk,
              AV.junk, AV.junk, AV.junk, AV.junk, AV.junk, AV.junk, AV.junk, AV.junk, AV.junk, AV.junk, AV.junk, AV.junk,
              AV.junk, AV.junk, AV.junk, AV.junk, AV.junk, AV.junk, AV.junk],
          ob :=
            [(0,
                AO.box
                  [AV.val (Value.int IntKind.i64 x),
                    AV.rsl
                      [CK.str, CK.int IntKind.i64, CK.str, CK.int IntKind.i64, CK.int IntKind.i64, CK.int IntKind.i64,
                        CK.int IntKind.i64, CK.int IntKind.i64, CK.int IntKind.i64, CK.int IntKind.i64, CK.int IntKind.i64,
                        CK.int IntKind.i64, CK.int IntKind.i64, CK.int IntKind.i64, CK.int IntKind.i64, CK.int IntKind.i64,
                        CK.int IntKind.i64, CK.int IntKind.i64, CK.int IntKind.i64, CK.int IntKind.i64, CK.int IntKind.i64,
                        CK.int IntKind.i64, CK.int IntKind.i64, CK.int IntKind.i64, CK.int IntKind.i64, CK.int IntKind.i64,
                        CK.int IntKind.i64, CK.int IntKind.i64, CK.int IntKind.i64, CK.int IntKind.i64, CK.bool]
                      s,
                    AV.rsl [CK.int IntKind.i64, CK.int IntKind.i64, CK.int IntKind.i64] d,
                    AV.rsl [CK.int IntKind.i64, CK.int IntKind.i64, CK.int IntKind.i64] p, AV.val (Value.bool b),
                    AV.rsl [CK.int IntKind.i64] f, AV.val (Value.int IntKind.i64 n)]),
              (1,
                AO.box
                  [AV.val (Value.int IntKind.i64 x'),
                    AV.rsl
                      [CK.str, CK.int IntKind.i64, CK.str, CK.int IntKind.i64, CK.int IntKind.i64, CK.int IntKind.i64,
                        CK.int IntKind.i64, CK.int IntKind.i64, CK.int IntKind.i64, CK.int IntKind.i64, CK.int IntKind.i64,
                        CK.int IntKind.i64, CK.int IntKind.i64, CK.int IntKind.i64, CK.int IntKind.i64, CK.int IntKind.i64,
                        CK.int IntKind.i64, CK.int IntKind.i64, CK.int IntKind.i64, CK.int IntKind.i64, CK.int IntKind.i64,
                        CK.int IntKind.i64, CK.int IntKind.i64, CK.int IntKind.i64, CK.int IntKind.i64, CK.int IntKind.i64,
                        CK.int IntKind.i64, CK.int IntKind.i64, CK.int IntKind.i64, CK.int IntKind.i64, CK.bool]
                      s',
                    AV.rsl [CK.int IntKind.i64, CK.int IntKind.i64, CK.int IntKind.i64] d',
                    AV.rsl [CK.int IntKind.i64, CK.int IntKind.i64, CK.int IntKind.i64] p', AV.val (Value.bool b'),
                    AV.rsl [CK.int IntKind.i64] f', AV.val (Value.int IntKind.i64 n')])],
          nx := 1000000, ps := [] })) := by kernel_rfl
def st59c (x : Int) (s : List (Elem kc)) (d p : List (Elem k3)) (b : Bool) (f : List (Elem ki)) (n : Int) (x' : Int) (s' : List (Elem kc)) (d' p' : List (Elem k3)) (b' : Bool) (f' : List (Elem ki)) (n' : Int) (i j q : Int) : St :=
  ⟨[AV.agg [AV.val (Value.int IntKind.i64 x), AV.rsl [CK.str, CK.int IntKind.i64, CK.str, CK.int IntKind.i64, CK.int IntKind.i64, CK.int IntKind.i64, CK.int IntKind.i64, CK.int IntKind.i64, CK.int IntKind.i64, CK.int IntKind.i64, CK.int IntKind.i64, CK.int IntKind.i64, CK.int IntKind.i64, CK.int IntKind.i64, CK.int IntKind.i64, CK.int IntKind.i64, CK.int IntKind.i64, CK.int IntKind.i64, CK.int IntKind.i64, CK.int IntKind.i64, CK.int IntKind.i64, CK.int IntKind.i64, CK.int IntKind.i64, CK.int IntKind.i64, CK.int IntKind.i64, CK.int IntKind.i64, CK.int IntKind.i64, CK.int IntKind.i64, CK.int IntKind.i64, CK.int IntKind.i64, CK.bool] s, AV.rsl [CK.int IntKind.i64, CK.int IntKind.i64, CK.int IntKind.i64] d, AV.rsl [CK.int IntKind.i64, CK.int IntKind.i64, CK.int IntKind.i64] p, AV.val (Value.bool b), AV.rsl [CK.int IntKind.i64] f, AV.val (Value.int IntKind.i64 n)], AV.agg [AV.val (Value.int IntKind.i64 x'), AV.rsl [CK.str, CK.int IntKind.i64, CK.str, CK.int IntKind.i64, CK.int IntKind.i64, CK.int IntKind.i64, CK.int IntKind.i64, CK.int IntKind.i64, CK.int IntKind.i64, CK.int IntKind.i64, CK.int IntKind.i64, CK.int IntKind.i64, CK.int IntKind.i64, CK.int IntKind.i64, CK.int IntKind.i64, CK.int IntKind.i64, CK.int IntKind.i64, CK.int IntKind.i64, CK.int IntKind.i64, CK.int IntKind.i64, CK.int IntKind.i64, CK.int IntKind.i64, CK.int IntKind.i64, CK.int IntKind.i64, CK.int IntKind.i64, CK.int IntKind.i64, CK.int IntKind.i64, CK.int IntKind.i64, CK.int IntKind.i64, CK.int IntKind.i64, CK.bool] s', AV.rsl [CK.int IntKind.i64, CK.int IntKind.i64, CK.int IntKind.i64] d', AV.rsl [CK.int IntKind.i64, CK.int IntKind.i64, CK.int IntKind.i64] p', AV.val (Value.bool b'), AV.rsl [CK.int IntKind.i64] f', AV.val (Value.int IntKind.i64 n')], AV.ptr 0 0, AV.ptr 1 0, AV.val (Value.bool false), AV.val (Value.int IntKind.i64 i), AV.val (Value.int IntKind.i64 j), .val (.int .i64 q), AV.ptr 0 0, AV.val (Value.int IntKind.i64 x), AV.ptr 1 0, AV.val (Value.int IntKind.i64 x'), AV.val (Value.bool (x != x')), AV.val (Value.bool false), AV.ptr 0 4, AV.val (Value.bool b), AV.ptr 1 4, AV.val (Value.bool b'), AV.val (Value.bool !b == b'), AV.val (Value.bool !b == b'), AV.val (Value.bool false), AV.ptr 0 6, AV.val (Value.int IntKind.i64 n), AV.ptr 1 6, AV.val (Value.int IntKind.i64 n'), AV.val (Value.bool (n != n')), AV.val (Value.bool (n != n')), AV.val (Value.bool false), AV.ptr 0 1, AV.rsl [CK.str, CK.int IntKind.i64, CK.str, CK.int IntKind.i64, CK.int IntKind.i64, CK.int IntKind.i64, CK.int IntKind.i64, CK.int IntKind.i64, CK.int IntKind.i64, CK.int IntKind.i64, CK.int IntKind.i64, CK.int IntKind.i64, CK.int IntKind.i64, CK.int IntKind.i64, CK.int IntKind.i64, CK.int IntKind.i64, CK.int IntKind.i64, CK.int IntKind.i64, CK.int IntKind.i64, CK.int IntKind.i64, CK.int IntKind.i64, CK.int IntKind.i64, CK.int IntKind.i64, CK.int IntKind.i64, CK.int IntKind.i64, CK.int IntKind.i64, CK.int IntKind.i64, CK.int IntKind.i64, CK.int IntKind.i64, CK.int IntKind.i64, CK.bool] s, AV.val (Value.int IntKind.i64 (↑s.length : Int)), AV.ptr 1 1, AV.rsl [CK.str, CK.int IntKind.i64, CK.str, CK.int IntKind.i64, CK.int IntKind.i64, CK.int IntKind.i64, CK.int IntKind.i64, CK.int IntKind.i64, CK.int IntKind.i64, CK.int IntKind.i64, CK.int IntKind.i64, CK.int IntKind.i64, CK.int IntKind.i64, CK.int IntKind.i64, CK.int IntKind.i64, CK.int IntKind.i64, CK.int IntKind.i64, CK.int IntKind.i64, CK.int IntKind.i64, CK.int IntKind.i64, CK.int IntKind.i64, CK.int IntKind.i64, CK.int IntKind.i64, CK.int IntKind.i64, CK.int IntKind.i64, CK.int IntKind.i64, CK.int IntKind.i64, CK.int IntKind.i64, CK.int IntKind.i64, CK.int IntKind.i64, CK.bool] s', AV.val (Value.int IntKind.i64 (↑s'.length : Int)), AV.val (Value.bool ((↑s.length : Int) != (↑s'.length : Int))), AV.val (Value.bool ((↑s.length : Int) != (↑s'.length : Int))), AV.val (Value.bool false), AV.ptr 0 2, AV.rsl [CK.int IntKind.i64, CK.int IntKind.i64, CK.int IntKind.i64] d, AV.val (Value.int IntKind.i64 (↑d.length : Int)), AV.ptr 1 2, AV.rsl [CK.int IntKind.i64, CK.int IntKind.i64, CK.int IntKind.i64] d', AV.val (Value.int IntKind.i64 (↑d'.length : Int)), AV.val (Value.bool ((↑d.length : Int) != (↑d'.length : Int))), AV.val (Value.bool ((↑d.length : Int) != (↑d'.length : Int))), AV.val (Value.bool false), AV.ptr 0 3, AV.rsl [CK.int IntKind.i64, CK.int IntKind.i64, CK.int IntKind.i64] p, AV.val (Value.int IntKind.i64 (↑p.length : Int)), AV.ptr 1 3, AV.rsl [CK.int IntKind.i64, CK.int IntKind.i64, CK.int IntKind.i64] p', AV.val (Value.int IntKind.i64 (↑p'.length : Int)), AV.val (Value.bool ((↑p.length : Int) != (↑p'.length : Int))), AV.val (Value.bool ((↑p.length : Int) != (↑p'.length : Int))), AV.val (Value.bool false), AV.ptr 0 5, AV.rsl [CK.int IntKind.i64] f, AV.ptr 1 5, AV.rsl [CK.int IntKind.i64] f', AV.val (Value.bool (eqR ki f f')), AV.val (Value.bool !eqR ki f f'), AV.val (Value.bool !eqR ki f f'), AV.val (Value.int IntKind.i64 i), AV.ptr 0 1, AV.rsl [CK.str, CK.int IntKind.i64, CK.str, CK.int IntKind.i64, CK.int IntKind.i64, CK.int IntKind.i64, CK.int IntKind.i64, CK.int IntKind.i64, CK.int IntKind.i64, CK.int IntKind.i64, CK.int IntKind.i64, CK.int IntKind.i64, CK.int IntKind.i64, CK.int IntKind.i64, CK.int IntKind.i64, CK.int IntKind.i64, CK.int IntKind.i64, CK.int IntKind.i64, CK.int IntKind.i64, CK.int IntKind.i64, CK.int IntKind.i64, CK.int IntKind.i64, CK.int IntKind.i64, CK.int IntKind.i64, CK.int IntKind.i64, CK.int IntKind.i64, CK.int IntKind.i64, CK.int IntKind.i64, CK.int IntKind.i64, CK.int IntKind.i64, CK.bool] s, AV.val (Value.int IntKind.i64 (↑s.length : Int)), AV.val (Value.bool (decide (i < (↑s.length : Int)))), AV.junk, AV.junk, AV.junk, AV.junk, AV.junk, AV.junk, AV.junk, AV.junk, AV.junk, AV.junk, AV.junk, AV.junk, AV.junk, AV.val (Value.int IntKind.i64 j), AV.ptr 0 2, AV.rsl [CK.int IntKind.i64, CK.int IntKind.i64, CK.int IntKind.i64] d, AV.val (Value.int IntKind.i64 (↑d.length : Int)), AV.val (Value.bool (decide (j < (↑d.length : Int)))), AV.junk, AV.junk, AV.junk, AV.junk, AV.junk, AV.junk, AV.junk, AV.junk, AV.junk, AV.junk, AV.junk, AV.junk, AV.junk, AV.junk, AV.junk, AV.junk, AV.junk, AV.junk, AV.junk, AV.junk, AV.junk, AV.junk, AV.junk, AV.junk, AV.junk, AV.junk, AV.junk, AV.junk, AV.junk, AV.junk, AV.junk],
    [(0, AO.box [AV.val (Value.int IntKind.i64 x), AV.rsl [CK.str, CK.int IntKind.i64, CK.str, CK.int IntKind.i64, CK.int IntKind.i64, CK.int IntKind.i64, CK.int IntKind.i64, CK.int IntKind.i64, CK.int IntKind.i64, CK.int IntKind.i64, CK.int IntKind.i64, CK.int IntKind.i64, CK.int IntKind.i64, CK.int IntKind.i64, CK.int IntKind.i64, CK.int IntKind.i64, CK.int IntKind.i64, CK.int IntKind.i64, CK.int IntKind.i64, CK.int IntKind.i64, CK.int IntKind.i64, CK.int IntKind.i64, CK.int IntKind.i64, CK.int IntKind.i64, CK.int IntKind.i64, CK.int IntKind.i64, CK.int IntKind.i64, CK.int IntKind.i64, CK.int IntKind.i64, CK.int IntKind.i64, CK.bool] s, AV.rsl [CK.int IntKind.i64, CK.int IntKind.i64, CK.int IntKind.i64] d, AV.rsl [CK.int IntKind.i64, CK.int IntKind.i64, CK.int IntKind.i64] p, AV.val (Value.bool b), AV.rsl [CK.int IntKind.i64] f, AV.val (Value.int IntKind.i64 n)]), (1, AO.box [AV.val (Value.int IntKind.i64 x'), AV.rsl [CK.str, CK.int IntKind.i64, CK.str, CK.int IntKind.i64, CK.int IntKind.i64, CK.int IntKind.i64, CK.int IntKind.i64, CK.int IntKind.i64, CK.int IntKind.i64, CK.int IntKind.i64, CK.int IntKind.i64, CK.int IntKind.i64, CK.int IntKind.i64, CK.int IntKind.i64, CK.int IntKind.i64, CK.int IntKind.i64, CK.int IntKind.i64, CK.int IntKind.i64, CK.int IntKind.i64, CK.int IntKind.i64, CK.int IntKind.i64, CK.int IntKind.i64, CK.int IntKind.i64, CK.int IntKind.i64, CK.int IntKind.i64, CK.int IntKind.i64, CK.int IntKind.i64, CK.int IntKind.i64, CK.int IntKind.i64, CK.int IntKind.i64, CK.bool] s', AV.rsl [CK.int IntKind.i64, CK.int IntKind.i64, CK.int IntKind.i64] d', AV.rsl [CK.int IntKind.i64, CK.int IntKind.i64, CK.int IntKind.i64] p', AV.val (Value.bool b'), AV.rsl [CK.int IntKind.i64] f', AV.val (Value.int IntKind.i64 n')])], 1000000, []⟩
theorem b59c (L : Lp) (R : Option Res → Prop) (N : St → Prop) (x : Int) (s : List (Elem kc)) (d p : List (Elem k3)) (b : Bool) (f : List (Elem ki)) (n : Int) (x' : Int) (s' : List (Elem kc)) (d' p' : List (Elem k3)) (b' : Bool) (f' : List (Elem ki)) (n' : Int) (i j q : Int) : (evP E59 G59 L (lp59 14) (st59c x s d p b f n x' s' d' p' b' f' n' i j q) (rk59 L R 14 N)) = (
    br (decide (q < (↑p.length : Int)))
      (br (decide (0 ≤ q ∧ q < (↑p.length : Int)))
        (br (decide (0 ≤ q ∧ q < (↑p'.length : Int)))
          (br
            (!elemEq
                [CK.int IntKind.i64, CK.int IntKind.i64, CK.int IntKind.i64]
                (p.getD q.toNat (edflt [CK.int IntKind.i64, CK.int IntKind.i64, CK.int IntKind.i64]))
                (p'.getD q.toNat (edflt [CK.int IntKind.i64, CK.int IntKind.i64, CK.int IntKind.i64])))
            (R (some { av := AV.val (Value.bool false), obs := [], outs := [] }))
            (N
              {
                tm :=
                  [AV.agg
                      [AV.val (Value.int IntKind.i64 x),
                        AV.rsl
                          [CK.str, CK.int IntKind.i64, CK.str, CK.int IntKind.i64, CK.int IntKind.i64, CK.int IntKind.i64,
                            CK.int IntKind.i64, CK.int IntKind.i64, CK.int IntKind.i64, CK.int IntKind.i64,
                            CK.int IntKind.i64, CK.int IntKind.i64, CK.int IntKind.i64, CK.int IntKind.i64,
                            CK.int IntKind.i64, CK.int IntKind.i64, CK.int IntKind.i64, CK.int IntKind.i64,
                            CK.int IntKind.i64, CK.int IntKind.i64, CK.int IntKind.i64, CK.int IntKind.i64,
                            CK.int IntKind.i64, CK.int IntKind.i64, CK.int IntKind.i64, CK.int IntKind.i64,
                            CK.int IntKind.i64, CK.int IntKind.i64, CK.int IntKind.i64, CK.int IntKind.i64, CK.bool]
                          s,
                        AV.rsl [CK.int IntKind.i64, CK.int IntKind.i64, CK.int IntKind.i64] d,
                        AV.rsl [CK.int IntKind.i64, CK.int IntKind.i64, CK.int IntKind.i64] p, AV.val (Value.bool b),
                        AV.rsl [CK.int IntKind.i64] f, AV.val (Value.int IntKind.i64 n)],
                    AV.agg
                      [AV.val (Value.int IntKind.i64 x'),
                        AV.rsl
                          [CK.str, CK.int IntKind.i64, CK.str, CK.int IntKind.i64, CK.int IntKind.i64, CK.int IntKind.i64,
                            CK.int IntKind.i64, CK.int IntKind.i64, CK.int IntKind.i64, CK.int IntKind.i64,
                            CK.int IntKind.i64, CK.int IntKind.i64, CK.int IntKind.i64, CK.int IntKind.i64,
                            CK.int IntKind.i64, CK.int IntKind.i64, CK.int IntKind.i64, CK.int IntKind.i64,
                            CK.int IntKind.i64, CK.int IntKind.i64, CK.int IntKind.i64, CK.int IntKind.i64,
                            CK.int IntKind.i64, CK.int IntKind.i64, CK.int IntKind.i64, CK.int IntKind.i64,
                            CK.int IntKind.i64, CK.int IntKind.i64, CK.int IntKind.i64, CK.int IntKind.i64, CK.bool]
                          s',
                        AV.rsl [CK.int IntKind.i64, CK.int IntKind.i64, CK.int IntKind.i64] d',
                        AV.rsl [CK.int IntKind.i64, CK.int IntKind.i64, CK.int IntKind.i64] p', AV.val (Value.bool b'),
                        AV.rsl [CK.int IntKind.i64] f', AV.val (Value.int IntKind.i64 n')],
                    AV.ptr 0 0, AV.ptr 1 0, AV.val (Value.bool false), AV.val (Value.int IntKind.i64 i),
                    AV.val (Value.int IntKind.i64 j), AV.val (Value.int IntKind.i64 (IntKind.i64.wrap (q + 1))), AV.ptr 0 0,
                    AV.val (Value.int IntKind.i64 x), AV.ptr 1 0, AV.val (Value.int IntKind.i64 x'),
                    AV.val (Value.bool (x != x')), AV.val (Value.bool false), AV.ptr 0 4, AV.val (Value.bool b), AV.ptr 1 4,
                    AV.val (Value.bool b'), AV.val (Value.bool !b == b'), AV.val (Value.bool !b == b'),
                    AV.val (Value.bool false), AV.ptr 0 6, AV.val (Value.int IntKind.i64 n), AV.ptr 1 6,
                    AV.val (Value.int IntKind.i64 n'), AV.val (Value.bool (n != n')), AV.val (Value.bool (n != n')),
                    AV.val (Value.bool false), AV.ptr 0 1,
                    AV.rsl
                      [CK.str, CK.int IntKind.i64, CK.str, CK.int IntKind.i64, CK.int IntKind.i64, CK.int IntKind.i64,
                        CK.int IntKind.i64, CK.int IntKind.i64, CK.int IntKind.i64, CK.int IntKind.i64, CK.int IntKind.i64,
                        CK.int IntKind.i64, CK.int IntKind.i64, CK.int IntKind.i64, CK.int IntKind.i64, CK.int IntKind.i64,
                        CK.int IntKind.i64, CK.int IntKind.i64, CK.int IntKind.i64, CK.int IntKind.i64, CK.int IntKind.i64,
                        CK.int IntKind.i64, CK.int IntKind.i64, CK.int IntKind.i64, CK.int IntKind.i64, CK.int IntKind.i64,
                        CK.int IntKind.i64, CK.int IntKind.i64, CK.int IntKind.i64, CK.int IntKind.i64, CK.bool]
                      s,
                    AV.val (Value.int IntKind.i64 (↑s.length : Int)), AV.ptr 1 1,
                    AV.rsl
                      [CK.str, CK.int IntKind.i64, CK.str, CK.int IntKind.i64, CK.int IntKind.i64, CK.int IntKind.i64,
                        CK.int IntKind.i64, CK.int IntKind.i64, CK.int IntKind.i64, CK.int IntKind.i64, CK.int IntKind.i64,
                        CK.int IntKind.i64, CK.int IntKind.i64, CK.int IntKind.i64, CK.int IntKind.i64, CK.int IntKind.i64,
                        CK.int IntKind.i64, CK.int IntKind.i64, CK.int IntKind.i64, CK.int IntKind.i64, CK.int IntKind.i64,
                        CK.int IntKind.i64, CK.int IntKind.i64, CK.int IntKind.i64, CK.int IntKind.i64, CK.int IntKind.i64,
                        CK.int IntKind.i64, CK.int IntKind.i64, CK.int IntKind.i64, CK.int IntKind.i64, CK.bool]
                      s',
                    AV.val (Value.int IntKind.i64 (↑s'.length : Int)),
                    AV.val (Value.bool ((↑s.length : Int) != (↑s'.length : Int))),
                    AV.val (Value.bool ((↑s.length : Int) != (↑s'.length : Int))), AV.val (Value.bool false), AV.ptr 0 2,
                    AV.rsl [CK.int IntKind.i64, CK.int IntKind.i64, CK.int IntKind.i64] d,
                    AV.val (Value.int IntKind.i64 (↑d.length : Int)), AV.ptr 1 2,
                    AV.rsl [CK.int IntKind.i64, CK.int IntKind.i64, CK.int IntKind.i64] d',
                    AV.val (Value.int IntKind.i64 (↑d'.length : Int)),
                    AV.val (Value.bool ((↑d.length : Int) != (↑d'.length : Int))),
                    AV.val (Value.bool ((↑d.length : Int) != (↑d'.length : Int))), AV.val (Value.bool false), AV.ptr 0 3,
                    AV.rsl [CK.int IntKind.i64, CK.int IntKind.i64, CK.int IntKind.i64] p,
                    AV.val (Value.int IntKind.i64 (↑p.length : Int)), AV.ptr 1 3,
                    AV.rsl [CK.int IntKind.i64, CK.int IntKind.i64, CK.int IntKind.i64] p',
                    AV.val (Value.int IntKind.i64 (↑p'.length : Int)),
                    AV.val (Value.bool ((↑p.length : Int) != (↑p'.length : Int))),
                    AV.val (Value.bool ((↑p.length : Int) != (↑p'.length : Int))), AV.val (Value.bool false), AV.ptr 0 5,
                    AV.rsl [CK.int IntKind.i64] f, AV.ptr 1 5, AV.rsl [CK.int IntKind.i64] f',
                    AV.val (Value.bool (eqR ki f f')), AV.val (Value.bool !eqR ki f f'), AV.val (Value.bool !eqR ki f f'),
                    AV.val (Value.int IntKind.i64 i), AV.ptr 0 1,
                    AV.rsl
                      [CK.str, CK.int IntKind.i64, CK.str, CK.int IntKind.i64, CK.int IntKind.i64, CK.int IntKind.i64,
                        CK.int IntKind.i64, CK.int IntKind.i64, CK.int IntKind.i64, CK.int IntKind.i64, CK.int IntKind.i64,
                        CK.int IntKind.i64, CK.int IntKind.i64, CK.int IntKind.i64, CK.int IntKind.i64, CK.int IntKind.i64,
                        CK.int IntKind.i64, CK.int IntKind.i64, CK.int IntKind.i64, CK.int IntKind.i64, CK.int IntKind.i64,
                        CK.int IntKind.i64, CK.int IntKind.i64, CK.int IntKind.i64, CK.int IntKind.i64, CK.int IntKind.i64,
                        CK.int IntKind.i64, CK.int IntKind.i64, CK.int IntKind.i64, CK.int IntKind.i64, CK.bool]
                      s,
                    AV.val (Value.int IntKind.i64 (↑s.length : Int)), AV.val (Value.bool (decide (i < (↑s.length : Int)))),
                    AV.junk, AV.junk, AV.junk, AV.junk, AV.junk, AV.junk, AV.junk, AV.junk, AV.junk, AV.junk, AV.junk,
                    AV.junk, AV.junk, AV.val (Value.int IntKind.i64 j), AV.ptr 0 2,
                    AV.rsl [CK.int IntKind.i64, CK.int IntKind.i64, CK.int IntKind.i64] d,
                    AV.val (Value.int IntKind.i64 (↑d.length : Int)), AV.val (Value.bool (decide (j < (↑d.length : Int)))),
                    AV.junk, AV.junk, AV.junk, AV.junk, AV.junk, AV.junk, AV.junk, AV.junk, AV.junk, AV.junk, AV.junk,
                    AV.junk, AV.junk, AV.junk, AV.junk, AV.junk, AV.junk, AV.junk, AV.junk, AV.junk, AV.junk, AV.junk,
                    AV.junk, AV.junk, AV.junk, AV.junk, AV.junk, AV.junk, AV.junk, AV.junk, AV.junk],
                ob :=
                  [(0,
                      AO.box
                        [AV.val (Value.int IntKind.i64 x),
                          AV.rsl
                            [CK.str, CK.int IntKind.i64, CK.str, CK.int IntKind.i64, CK.int IntKind.i64, CK.int IntKind.i64,
                              CK.int IntKind.i64, CK.int IntKind.i64, CK.int IntKind.i64, CK.int IntKind.i64,
                              CK.int IntKind.i64, CK.int IntKind.i64, CK.int IntKind.i64, CK.int IntKind.i64,
                              CK.int IntKind.i64, CK.int IntKind.i64, CK.int IntKind.i64, CK.int IntKind.i64,
                              CK.int IntKind.i64, CK.int IntKind.i64, CK.int IntKind.i64, CK.int IntKind.i64,
                              CK.int IntKind.i64, CK.int IntKind.i64, CK.int IntKind.i64, CK.int IntKind.i64,
                              CK.int IntKind.i64, CK.int IntKind.i64, CK.int IntKind.i64, CK.int IntKind.i64, CK.bool]
                            s,
                          AV.rsl [CK.int IntKind.i64, CK.int IntKind.i64, CK.int IntKind.i64] d,
                          AV.rsl [CK.int IntKind.i64, CK.int IntKind.i64, CK.int IntKind.i64] p, AV.val (Value.bool b),
                          AV.rsl [CK.int IntKind.i64] f, AV.val (Value.int IntKind.i64 n)]),
                    (1,
                      AO.box
                        [AV.val (Value.int IntKind.i64 x'),
                          AV.rsl
                            [CK.str, CK.int IntKind.i64, CK.str, CK.int IntKind.i64, CK.int IntKind.i64, CK.int IntKind.i64,
                              CK.int IntKind.i64, CK.int IntKind.i64, CK.int IntKind.i64, CK.int IntKind.i64,
                              CK.int IntKind.i64, CK.int IntKind.i64, CK.int IntKind.i64, CK.int IntKind.i64,
                              CK.int IntKind.i64, CK.int IntKind.i64, CK.int IntKind.i64, CK.int IntKind.i64,
                              CK.int IntKind.i64, CK.int IntKind.i64, CK.int IntKind.i64, CK.int IntKind.i64,
                              CK.int IntKind.i64, CK.int IntKind.i64, CK.int IntKind.i64, CK.int IntKind.i64,
                              CK.int IntKind.i64, CK.int IntKind.i64, CK.int IntKind.i64, CK.int IntKind.i64, CK.bool]
                            s',
                          AV.rsl [CK.int IntKind.i64, CK.int IntKind.i64, CK.int IntKind.i64] d',
                          AV.rsl [CK.int IntKind.i64, CK.int IntKind.i64, CK.int IntKind.i64] p', AV.val (Value.bool b'),
                          AV.rsl [CK.int IntKind.i64] f', AV.val (Value.int IntKind.i64 n')])],
                nx := 1000000, ps := [] }))
          False)
        False)
      (R (some { av := AV.val (Value.bool true), obs := [], outs := [] }))) := by kernel_rfl
theorem h59 : G1Ok Try.prog 59 g62 := by
  intro args obs k h
  unfold g62 at h
  split at h
  · rename_i k us vs
    split at h
    rotate_left
    · exact h.elim
    rename_i c e hc he
    obtain rfl := coreOf_inv hc
    obtain rfl := coreOf_inv he
    obtain ⟨x, s, d, p, b, f, n⟩ := c
    obtain ⟨x', s', d', p', b', f', n'⟩ := e
    obtain ⟨hp, h⟩ := br_and h
    simp only [smCo, Bool.and_eq_true] at hp
    obtain ⟨⟨⟨ps, pd⟩, pp⟩, pf⟩ := hp
    refine ⟨_, ctr_fn ok0 hg59 Try.func59 (by kernel_rfl) (by kernel_rfl) (by kernel_rfl) fun C => ?_, h⟩
    show bodyP E0 G59 _ Try.f59 [coreAV x s d p b f n, coreAV x' s' d' p' b' f' n'] [] _
    rw [e59]
    have ps' := of_decide_eq_true ps
    have pd' := of_decide_eq_true pd
    have pp' := of_decide_eq_true pp
    refine br_bne (fun h1 => ?_) (fun h1 => br_not (fun h5 => ?_) (fun h5 => br_bne (fun h7 => ?_) (fun h7 => br_bne (fun l1 => ?_) (fun l1 => br_bne (fun l2 => ?_) (fun l2 => br_bne (fun l3 => ?_) (fun l3 => br_t pf (br_not (fun h6 => ?_) (fun h6 => ?_))))))))
    · show _ = _
      rw [eqCo_def, h1]
      simp only [Bool.and_false, Bool.false_and]
    · show _ = _
      rw [eqCo_def, h5]
      simp only [Bool.and_false, Bool.false_and]
    · show _ = _
      rw [eqCo_def, h7]
      simp only [Bool.and_false, Bool.false_and]
    · have q1 : eqR kc s s' = false := eqL_len (fun e => by rw [e] at l1; simp at l1)
      show _ = _
      rw [eqCo_def, q1]
      simp only [Bool.and_false, Bool.false_and]
    · have q1 : eqR k3 d d' = false := eqL_len (fun e => by rw [e] at l2; simp at l2)
      show _ = _
      rw [eqCo_def, q1]
      simp only [Bool.and_false, Bool.false_and]
    · have q1 : eqR k3 p p' = false := eqL_len (fun e => by rw [e] at l3; simp at l3)
      show _ = _
      rw [eqCo_def, q1]
      simp only [Bool.and_false, Bool.false_and]
    · show _ = _
      rw [eqCo_def, h6]
      simp only [Bool.and_false, Bool.false_and]
    have hl1 : s.length = s'.length := by simp at l1; omega
    have hl2 : d.length = d'.length := by simp at l2; omega
    have hl3 : p.length = p'.length := by simp at l3; omega
    refine loopAll okf59 hg59 (fun i => st59 x s d p b f n x' s' d' p' b' f' n' i) s.length (fun i => elemEq kc (s.getD i (edflt kc)) (s'.getD i (edflt kc))) (by omega) (fun N i hi hw next fails done => ?_)
    show evP E59 G59 _ (lp59 4) (st59 x s d p b f n x' s' d' p' b' f' n' i) (rk59 _ _ 4 _)
    rw [b59, hw, Int.toNat_natCast]
    refine br_dec (fun h2 => br_yes ⟨by omega, h2⟩ (br_yes ⟨by omega, by omega⟩ (br_not (fun h3 => ?_) (fun h3 => ?_)))) (fun h2 => ?_)
    · have q1 : eqR kc s s' = false := (eqL_of hl1).trans (fails (by omega) h3)
      show _ = _
      rw [eqCo_def, q1]
      simp only [Bool.and_false, Bool.false_and]
    · exact next (by omega) h3
    have h2a : eqR kc s s' = true := (eqL_of hl1).trans (done (by omega))
    refine loopAll okf59 hg59 (fun j => st59b x s d p b f n x' s' d' p' b' f' n' i j) d.length (fun j => elemEq k3 (d.getD j (edflt k3)) (d'.getD j (edflt k3))) (by omega) (fun N j hi2 hw next fails done => ?_)
    show evP E59 G59 _ (lp59 9) (st59b x s d p b f n x' s' d' p' b' f' n' i j) (rk59 _ _ 9 _)
    rw [b59b, hw, Int.toNat_natCast]
    refine br_dec (fun h2 => br_yes ⟨by omega, h2⟩ (br_yes ⟨by omega, by omega⟩ (br_not (fun h3 => ?_) (fun h3 => ?_)))) (fun h2 => ?_)
    · have q1 : eqR k3 d d' = false := (eqL_of hl2).trans (fails (by omega) h3)
      show _ = _
      rw [eqCo_def, q1]
      simp only [Bool.and_false, Bool.false_and]
    · exact next (by omega) h3
    have h3a : eqR k3 d d' = true := (eqL_of hl2).trans (done (by omega))
    refine loopAll okf59 hg59 (fun q => st59c x s d p b f n x' s' d' p' b' f' n' i j q) p.length (fun q => elemEq k3 (p.getD q (edflt k3)) (p'.getD q (edflt k3))) (by omega) (fun N q hi3 hw next fails done => ?_)
    show evP E59 G59 _ (lp59 14) (st59c x s d p b f n x' s' d' p' b' f' n' i j q) (rk59 _ _ 14 _)
    rw [b59c, hw, Int.toNat_natCast]
    refine br_dec (fun h2 => br_yes ⟨by omega, h2⟩ (br_yes ⟨by omega, by omega⟩ (br_not (fun h3 => ?_) (fun h3 => ?_)))) (fun h2 => ?_)
    · have q1 : eqR k3 p p' = false := (eqL_of hl3).trans (fails (by omega) h3)
      show _ = _
      rw [eqCo_def, q1]
      simp only [Bool.and_false, Bool.false_and]
    · exact next (by omega) h3
    have h4a : eqR k3 p p' = true := (eqL_of hl3).trans (done (by omega))
    show _ = _
    rw [eqCo_def, h1, h2a, h3a, h4a, h5, h6, h7]
    rfl
  · exact h.elim
noncomputable def E16 : Env := E0.of Try.f16
noncomputable def G16 : Gk := gk [(58, g58), (59, g62), (60, g60), (61, g62), (62, g62)]
noncomputable def lp16 (n : Nat) : Code := (loopOf n (codeOf Try.f16)).getD .skip
noncomputable def ct16 (L : Lp) (R : Option Res → Prop) (n : Nat) : Kt := contOf E16 G16 L n (codeOf Try.f16) (endK E16 Try.f16.results.toList R)
noncomputable def rk16 (L : Lp) (R : Option Res → Prop) (n : Nat) (N : St → Prop) : Kt := rk (jof E16 (lp16 n)) N (ct16 L R n)
noncomputable def LOOP16 (L : Lp) (R : Option Res → Prop) (n : Nat) (st : St) : Prop := L (lp16 n) st (ct16 L R n)
theorem hg16 : HG Try.prog G16 := (hg_cons h58 (hg_cons h59 (hg_cons h60 (hg_cons h61 (hg_cons h62 hg_nil)))))
theorem okf16 : Ok Try.prog E16 := ok0.of Try.f16
theorem e16 (L : Lp) (R : Option Res → Prop) (x : Int) (s : List (Elem kc)) (d p : List (Elem k3)) (b : Bool) (f : List (Elem ki)) (n : Int) (x' : Int) (s' : List (Elem kc)) (d' p' : List (Elem k3)) (b' : Bool) (f' : List (Elem ki)) (n' : Int) : (bodyP E0 G16 L Try.f16 [coreAV x s d p b f n, coreAV x' s' d' p' b' f' n'] [] R) = (
    br (inCo (x, s, d, p, b, f, n) && true)
      (br (decide (szR 1048576 (szCo (x, s, d, p, b, f, n)) < 0))
        (R (some { av := AV.val (Value.bool true), obs := [], outs := [] }))
        (br (inCo (x', s', d', p', b', f', n') && inL (szR 1048576 (szCo (x, s, d, p, b, f, n))))
          (br (decide (szR (szR 1048576 (szCo (x, s, d, p, b, f, n))) (szCo (x', s', d', p', b', f', n')) < 0))
            (R (some { av := AV.val (Value.bool true), obs := [], outs := [] }))
            (br (smCo (x, s, d, p, b, f, n))
              (br (smCo (x', s', d', p', b', f', n'))
                (br (smCo (x, s, d, p, b, f, n))
                  (br (smCo (x, s, d, p, b, f, n))
                    (br (smCo (x', s', d', p', b', f', n'))
                      (br (smCo (x, s, d, p, b, f, n))
                        (br
                          (!eqCo (x, s, d, p, b, f, n) (x', s', d', p', b', f', n') ==
                              eqCo (x, s, d, p, b, f, n) (x', s', d', p', b', f', n'))
                          (R (some { av := AV.val (Value.bool false), obs := [], outs := [] }))
                          (br (smCo (x, s, d, p, b, f, n))
                            (br (smCo (x, s, d, p, b, f, n))
                              (br (!eqCo (x, s, d, p, b, f, n) (x, s, d, p, b, f, n))
                                (R (some { av := AV.val (Value.bool false), obs := [], outs := [] }))
                                (br (smCo (x', s', d', p', b', f', n'))
                                  (br (smCo (x', s', d', p', b', f', n'))
                                    (br (!eqCo (x', s', d', p', b', f', n') (x', s', d', p', b', f', n'))
                                      (R (some { av := AV.val (Value.bool false), obs := [], outs := [] }))
                                      (R (some { av := AV.val (Value.bool true), obs := [], outs := [] })))
                                    False)
                                  False))
                              False)
                            False))
                        False)
                      False)
                    False)
                  False)
                False)
              False))
          False))
      False) := by kernel_rfl
theorem eqCo_self (x : Int) (s : List (Elem kc)) (d p : List (Elem k3)) (b : Bool) (f : List (Elem ki)) (n : Int) : eqCo (x, s, d, p, b, f, n) (x, s, d, p, b, f, n) = true := by
  rw [eqCo_def, eqR_self, eqR_self, eqR_self, eqR_self]
  simp
def coOk (x : Int) (s : List (Elem kc)) (d p : List (Elem k3)) (b : Bool) (f : List (Elem ki)) (n : Int) : Prop := (s.length ≤ maxLen ∧ ∀ e ∈ s, elemOk kc e) ∧ d.length ≤ maxLen ∧ p.length ≤ maxLen ∧ f.length ≤ maxLen
theorem inCo_of {x : Int} {s : List (Elem kc)} {d p : List (Elem k3)} {b : Bool} {f : List (Elem ki)} {n : Int} (h : coOk x s d p b f n) : inCo (x, s, d, p, b, f, n) = true := by
  obtain ⟨⟨h1, h1'⟩, h2, h3, h4⟩ := h
  have e1 : inCs s = true := by
    unfold inCs
    rw [Bool.and_eq_true, decide_eq_true_eq, List.all_eq_true]
    refine ⟨h1, fun e he => ?_⟩
    obtain ⟨q0, _, q2, _⟩ := h1' e he
    unfold inC inS
    rw [decide_eq_true (show e.1.size ≤ 9223372036854775807 from q0), decide_eq_true (show e.2.2.1.size ≤ 9223372036854775807 from q2)]
    rfl
  show (inCs s && decide (d.length ≤ 9223372036854775807) && decide (p.length ≤ 9223372036854775807) && decide (f.length ≤ 9223372036854775807)) = true
  rw [e1, decide_eq_true (show d.length ≤ 9223372036854775807 from h2), decide_eq_true (show p.length ≤ 9223372036854775807 from h3), decide_eq_true (show f.length ≤ 9223372036854775807 from h4)]
  rfl
theorem smCo_of {x : Int} {s : List (Elem kc)} {d p : List (Elem k3)} {b : Bool} {f : List (Elem ki)} {n : Int} {l : Int} (hl : l ≤ 1048576) (h : ¬ szR l (szCo (x, s, d, p, b, f, n)) < 0) : smCo (x, s, d, p, b, f, n) = true := by
  have := szR_ge0 h
  have e : szCo (x, s, d, p, b, f, n) = (s.length + (s.map szC).sum) + d.length + p.length + f.length := rfl
  rw [e] at this
  show (decide (s.length ≤ 1048576) && decide (d.length ≤ 1048576) && decide (p.length ≤ 1048576) && decide (f.length ≤ 1048576)) = true
  simp only [Bool.and_eq_true, decide_eq_true_eq]
  omega
theorem c16 (x : Int) (s : List (Elem kc)) (d p : List (Elem k3)) (b : Bool) (f : List (Elem ki)) (n : Int) (x' : Int) (s' : List (Elem kc)) (d' p' : List (Elem k3)) (b' : Bool) (f' : List (Elem ki)) (n' : Int) (h : coOk x s d p b f n) (h' : coOk x' s' d' p' b' f' n') :
    Ctr Try.prog 16 [coreAV x s d p b f n, coreAV x' s' d' p' b' f' n'] [] ⟨.val (.bool true), [], []⟩ := by
  refine ctr_fn ok0 hg16 Try.func16 (by kernel_rfl) (by kernel_rfl) (by kernel_rfl) fun C => ?_
  rw [e16, inCo_of h, inCo_of h', eqCo_self, eqCo_self]
  refine br_t rfl (br_dec (fun _ => rfl) (fun h1 => ?_))
  refine br_t (by rw [inL_szR (by omega) h1]; rfl) (br_dec (fun _ => rfl) (fun h2 => ?_))
  have d1 := smCo_of (by omega) h1
  have d2 := smCo_of (szR_le (by omega)) h2
  refine br_t d1 (br_t d2 (br_t d1 (br_t d1 (br_t d2 (br_t d1 (br_not (fun h => ?_) (fun h => ?_)))))))
  · simp at h
  exact br_t d1 (br_t d1 (br_not (fun h => by cases h) (fun h => br_t d2 (br_t d2 (br_not (fun h => by cases h) (fun h => rfl))))))
end Go.Proofs.Ytjhjhkphcemcmaa.Ev
