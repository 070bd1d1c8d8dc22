/- The law of DiskSame. -/
import Derived.Test.YtjhjhkphcemcmaaF9
namespace Go.Proofs.Ytjhjhkphcemcmaa.Ev
open Go
set_option linter.unusedVariables false
set_option linter.unusedSimpArgs false
set_option maxRecDepth 100000
def g89 : G1
  | [.rsl [.str] xs, .rsl [.str] ys], [], k => br (decide (xs.length ≤ 1048576)) (k ⟨.val (.bool (eqR ks xs ys)), [], []⟩) False
  | _, _, _ => False
noncomputable def E89 : Env := E0.of Try.f89
noncomputable def G89 : Gk := gk []
noncomputable def lp89 (n : Nat) : Code := (loopOf n (codeOf Try.f89)).getD .skip
noncomputable def ct89 (L : Lp) (R : Option Res → Prop) (n : Nat) : Kt := contOf E89 G89 L n (codeOf Try.f89) (endK E89 Try.f89.results.toList R)
noncomputable def rk89 (L : Lp) (R : Option Res → Prop) (n : Nat) (N : St → Prop) : Kt := rk (jof E89 (lp89 n)) N (ct89 L R n)
noncomputable def LOOP89 (L : Lp) (R : Option Res → Prop) (n : Nat) (st : St) : Prop := L (lp89 n) st (ct89 L R n)
theorem hg89 : HG Try.prog G89 := hg_nil
theorem okf89 : Ok Try.prog E89 := ok0.of Try.f89
theorem e89 (L : Lp) (R : Option Res → Prop) (xs ys : List (Elem ks)) : (bodyP E0 G89 L Try.f89 [.rsl ks xs, .rsl ks ys] [] R) = (
    br ((↑xs.length : Int) != (↑ys.length : Int)) (R (some { av := AV.val (Value.bool false), obs := [], outs := [] }))
      (LOOP89 L R 4
        {
          tm :=
            [AV.rsl [CK.str] xs, AV.rsl [CK.str] ys, AV.val (Value.tuple #[]), AV.val (Value.tuple #[]),
              AV.val (Value.bool false), AV.junk, AV.rsl [CK.str] xs, AV.val (Value.int IntKind.i64 (↑xs.length : Int)),
              AV.rsl [CK.str] ys, AV.val (Value.int IntKind.i64 (↑ys.length : Int)),
              AV.val (Value.bool ((↑xs.length : Int) != (↑ys.length : Int))), AV.rsl [CK.str] xs,
              AV.val (Value.int IntKind.i64 (↑xs.length : Int)), AV.val (Value.int IntKind.i64 0), AV.junk, AV.junk,
              AV.junk, AV.junk, AV.junk, AV.junk, AV.junk, AV.junk, AV.junk, AV.junk, AV.junk, AV.junk],
          ob := [], nx := 1000000, ps := [] })) := by kernel_rfl
def st89 (xs ys : List (Elem ks)) (i : Int) : St :=
  ⟨[AV.rsl [CK.str] xs, AV.rsl [CK.str] ys, AV.val (Value.tuple #[]), AV.val (Value.tuple #[]), AV.val (Value.bool false), AV.junk, AV.rsl [CK.str] xs, AV.val (Value.int IntKind.i64 (↑xs.length : Int)), AV.rsl [CK.str] ys, AV.val (Value.int IntKind.i64 (↑ys.length : Int)), AV.val (Value.bool ((↑xs.length : Int) != (↑ys.length : Int))), AV.rsl [CK.str] xs, AV.val (Value.int IntKind.i64 (↑xs.length : Int)), .val (.int .i64 i), AV.junk, AV.junk, AV.junk, AV.junk, AV.junk, AV.junk, AV.junk, AV.junk, AV.junk, AV.junk, AV.junk, AV.junk],
    [], 1000000, []⟩
theorem b89 (L : Lp) (R : Option Res → Prop) (N : St → Prop) (xs ys : List (Elem ks)) (i : Int) : (evP E89 G89 L (lp89 4) (st89 xs ys i) (rk89 L R 4 N)) = (
    br (decide (i < (↑xs.length : Int)))
      (br (decide (0 ≤ i ∧ i < (↑xs.length : Int)))
        (br (decide (0 ≤ i ∧ i < (↑ys.length : Int)))
          (br (!strEq (xs.getD i.toNat (edflt [CK.str])).fst (ys.getD i.toNat (edflt [CK.str])).fst)
            (R (some { av := AV.val (Value.bool false), obs := [], outs := [] }))
            (N
              {
                tm :=
                  [AV.rsl [CK.str] xs, AV.rsl [CK.str] ys, AV.val (Value.tuple #[]), AV.val (Value.tuple #[]),
                    AV.val (Value.bool false), AV.junk, AV.rsl [CK.str] xs,
                    AV.val (Value.int IntKind.i64 (↑xs.length : Int)), AV.rsl [CK.str] ys,
                    AV.val (Value.int IntKind.i64 (↑ys.length : Int)),
                    AV.val (Value.bool ((↑xs.length : Int) != (↑ys.length : Int))), AV.rsl [CK.str] xs,
                    AV.val (Value.int IntKind.i64 (↑xs.length : Int)),
                    AV.val (Value.int IntKind.i64 (IntKind.i64.wrap (i + 1))), AV.junk, AV.junk, AV.junk, AV.junk, AV.junk,
                    AV.junk, AV.junk, AV.junk, AV.junk, AV.junk, AV.junk, AV.junk],
                ob := [], nx := 1000000, ps := [] }))
          False)
        False)
      (R (some { av := AV.val (Value.bool true), obs := [], outs := [] }))) := by kernel_rfl
theorem h89 : G1Ok Try.prog 89 g89 := by
  intro args obs k h
  unfold g89 at h
  split at h
  · rename_i k xs ys
    obtain ⟨hlen, h⟩ := brd h
    refine ⟨_, ctr_fn ok0 hg89 Try.func89 (by kernel_rfl) (by kernel_rfl) (by kernel_rfl) fun C => ?_, h⟩
    rw [e89]
    refine br_intro (fun hb => ?_) (fun hb => ?_)
    · show _ = _
      rw [show eqR ks xs ys = false from eqL_len (fun e => by rw [e] at hb; simp at hb)]
    have hl : xs.length = ys.length := by simp at hb; omega
    exact loopAll okf89 hg89 (fun i => st89 xs ys i) xs.length (fun i => elemEq ks (xs.getD i (edflt ks)) (ys.getD i (edflt ks))) (by omega) (fun N i hi hw next fails done => by
      show evP E89 G89 _ (lp89 4) (st89 xs ys i) (rk89 _ _ 4 _)
      rw [b89, hw, Int.toNat_natCast]
      refine br_dec (fun h2 => br_yes ⟨by omega, h2⟩ (br_yes ⟨by omega, by omega⟩ (br_not (fun h3 => ?_) (fun h3 => ?_)))) (fun h2 => ?_)
      · show _ = _
        rw [show eqR ks xs ys = false from (eqL_of hl).trans (fails (by omega) h3)]
      · exact next (by omega) h3
      · show _ = _
        rw [show eqR ks xs ys = true from (eqL_of hl).trans (done (by omega))])
  · exact h.elim
def g90 : G1
  | [.rsl [.int .i64, .int .i64, .str] xs, .rsl [.int .i64, .int .i64, .str] ys], [], k => br (decide (xs.length ≤ 1048576)) (k ⟨.val (.bool (eqR kl xs ys)), [], []⟩) False
  | _, _, _ => False
noncomputable def E90 : Env := E0.of Try.f90
noncomputable def G90 : Gk := gk []
noncomputable def lp90 (n : Nat) : Code := (loopOf n (codeOf Try.f90)).getD .skip
noncomputable def ct90 (L : Lp) (R : Option Res → Prop) (n : Nat) : Kt := contOf E90 G90 L n (codeOf Try.f90) (endK E90 Try.f90.results.toList R)
noncomputable def rk90 (L : Lp) (R : Option Res → Prop) (n : Nat) (N : St → Prop) : Kt := rk (jof E90 (lp90 n)) N (ct90 L R n)
noncomputable def LOOP90 (L : Lp) (R : Option Res → Prop) (n : Nat) (st : St) : Prop := L (lp90 n) st (ct90 L R n)
theorem hg90 : HG Try.prog G90 := hg_nil
theorem okf90 : Ok Try.prog E90 := ok0.of Try.f90
theorem e90 (L : Lp) (R : Option Res → Prop) (xs ys : List (Elem kl)) : (bodyP E0 G90 L Try.f90 [.rsl kl xs, .rsl kl ys] [] R) = (
    br ((↑xs.length : Int) != (↑ys.length : Int)) (R (some { av := AV.val (Value.bool false), obs := [], outs := [] }))
      (LOOP90 L R 4
        {
          tm :=
            [AV.rsl [CK.int IntKind.i64, CK.int IntKind.i64, CK.str] xs,
              AV.rsl [CK.int IntKind.i64, CK.int IntKind.i64, CK.str] ys, AV.val (Value.tuple #[]),
              AV.val (Value.tuple #[]), AV.val (Value.bool false), AV.junk,
              AV.rsl [CK.int IntKind.i64, CK.int IntKind.i64, CK.str] xs, AV.val (Value.int IntKind.i64 (↑xs.length : Int)),
              AV.rsl [CK.int IntKind.i64, CK.int IntKind.i64, CK.str] ys, AV.val (Value.int IntKind.i64 (↑ys.length : Int)),
              AV.val (Value.bool ((↑xs.length : Int) != (↑ys.length : Int))),
              AV.rsl [CK.int IntKind.i64, CK.int IntKind.i64, CK.str] xs, AV.val (Value.int IntKind.i64 (↑xs.length : Int)),
              AV.val (Value.int IntKind.i64 0), AV.junk, AV.junk, AV.junk, AV.junk, AV.junk, AV.junk, AV.junk, AV.junk,
              AV.junk, AV.junk, AV.junk, AV.junk],
          ob := [], nx := 1000000, ps := [] })) := by kernel_rfl
def st90 (xs ys : List (Elem kl)) (i : Int) : St :=
  ⟨[AV.rsl [CK.int IntKind.i64, CK.int IntKind.i64, CK.str] xs, AV.rsl [CK.int IntKind.i64, CK.int IntKind.i64, CK.str] ys, AV.val (Value.tuple #[]), AV.val (Value.tuple #[]), AV.val (Value.bool false), AV.junk, AV.rsl [CK.int IntKind.i64, CK.int IntKind.i64, CK.str] xs, AV.val (Value.int IntKind.i64 (↑xs.length : Int)), AV.rsl [CK.int IntKind.i64, CK.int IntKind.i64, CK.str] ys, AV.val (Value.int IntKind.i64 (↑ys.length : Int)), AV.val (Value.bool ((↑xs.length : Int) != (↑ys.length : Int))), AV.rsl [CK.int IntKind.i64, CK.int IntKind.i64, CK.str] xs, AV.val (Value.int IntKind.i64 (↑xs.length : Int)), .val (.int .i64 i), AV.junk, AV.junk, AV.junk, AV.junk, AV.junk, AV.junk, AV.junk, AV.junk, AV.junk, AV.junk, AV.junk, AV.junk],
    [], 1000000, []⟩
theorem b90 (L : Lp) (R : Option Res → Prop) (N : St → Prop) (xs ys : List (Elem kl)) (i : Int) : (evP E90 G90 L (lp90 4) (st90 xs ys i) (rk90 L R 4 N)) = (
    br (decide (i < (↑xs.length : Int)))
      (br (decide (0 ≤ i ∧ i < (↑xs.length : Int)))
        (br (decide (0 ≤ i ∧ i < (↑ys.length : Int)))
          (br
            (!elemEq
                [CK.int IntKind.i64, CK.int IntKind.i64, CK.str]
                (xs.getD i.toNat (edflt [CK.int IntKind.i64, CK.int IntKind.i64, CK.str]))
                (ys.getD i.toNat (edflt [CK.int IntKind.i64, CK.int IntKind.i64, CK.str])))
            (R (some { av := AV.val (Value.bool false), obs := [], outs := [] }))
            (N
              {
                tm :=
                  [AV.rsl [CK.int IntKind.i64, CK.int IntKind.i64, CK.str] xs,
                    AV.rsl [CK.int IntKind.i64, CK.int IntKind.i64, CK.str] ys, AV.val (Value.tuple #[]),
                    AV.val (Value.tuple #[]), AV.val (Value.bool false), AV.junk,
                    AV.rsl [CK.int IntKind.i64, CK.int IntKind.i64, CK.str] xs,
                    AV.val (Value.int IntKind.i64 (↑xs.length : Int)),
                    AV.rsl [CK.int IntKind.i64, CK.int IntKind.i64, CK.str] ys,
                    AV.val (Value.int IntKind.i64 (↑ys.length : Int)),
                    AV.val (Value.bool ((↑xs.length : Int) != (↑ys.length : Int))),
                    AV.rsl [CK.int IntKind.i64, CK.int IntKind.i64, CK.str] xs,
                    AV.val (Value.int IntKind.i64 (↑xs.length : Int)),
                    AV.val (Value.int IntKind.i64 (IntKind.i64.wrap (i + 1))), AV.junk, AV.junk, AV.junk, AV.junk, AV.junk,
                    AV.junk, AV.junk, AV.junk, AV.junk, AV.junk, AV.junk, AV.junk],
                ob := [], nx := 1000000, ps := [] }))
          False)
        False)
      (R (some { av := AV.val (Value.bool true), obs := [], outs := [] }))) := by kernel_rfl
theorem h90 : G1Ok Try.prog 90 g90 := by
  intro args obs k h
  unfold g90 at h
  split at h
  · rename_i k xs ys
    obtain ⟨hlen, h⟩ := brd h
    refine ⟨_, ctr_fn ok0 hg90 Try.func90 (by kernel_rfl) (by kernel_rfl) (by kernel_rfl) fun C => ?_, h⟩
    rw [e90]
    refine br_intro (fun hb => ?_) (fun hb => ?_)
    · show _ = _
      rw [show eqR kl xs ys = false from eqL_len (fun e => by rw [e] at hb; simp at hb)]
    have hl : xs.length = ys.length := by simp at hb; omega
    exact loopAll okf90 hg90 (fun i => st90 xs ys i) xs.length (fun i => elemEq kl (xs.getD i (edflt kl)) (ys.getD i (edflt kl))) (by omega) (fun N i hi hw next fails done => by
      show evP E90 G90 _ (lp90 4) (st90 xs ys i) (rk90 _ _ 4 _)
      rw [b90, hw, Int.toNat_natCast]
      refine br_dec (fun h2 => br_yes ⟨by omega, h2⟩ (br_yes ⟨by omega, by omega⟩ (br_not (fun h3 => ?_) (fun h3 => ?_)))) (fun h2 => ?_)
      · show _ = _
        rw [show eqR kl xs ys = false from (eqL_of hl).trans (fails (by omega) h3)]
      · exact next (by omega) h3
      · show _ = _
        rw [show eqR kl xs ys = true from (eqL_of hl).trans (done (by omega))])
  · exact h.elim
noncomputable def E43 : Env := E0.of Try.f43
noncomputable def G43 : Gk := gk [(89, g89), (90, g90)]
noncomputable def lp43 (n : Nat) : Code := (loopOf n (codeOf Try.f43)).getD .skip
noncomputable def ct43 (L : Lp) (R : Option Res → Prop) (n : Nat) : Kt := contOf E43 G43 L n (codeOf Try.f43) (endK E43 Try.f43.results.toList R)
noncomputable def rk43 (L : Lp) (R : Option Res → Prop) (n : Nat) (N : St → Prop) : Kt := rk (jof E43 (lp43 n)) N (ct43 L R n)
noncomputable def LOOP43 (L : Lp) (R : Option Res → Prop) (n : Nat) (st : St) : Prop := L (lp43 n) st (ct43 L R n)
theorem hg43 : HG Try.prog G43 := (hg_cons h89 (hg_cons h90 hg_nil))
theorem okf43 : Ok Try.prog E43 := ok0.of Try.f43
theorem e43 (L : Lp) (R : Option Res → Prop) (a b a' b' : List (Elem ks)) (c c' : List (Elem kl)) : (bodyP E0 G43 L Try.f43 [.agg [.rsl ks a, .rsl ks b, .rsl kl c], .agg [.rsl ks a', .rsl ks b', .rsl kl c']] [] R) = (
    br (decide (a.length ≤ 1048576))
      (br (eqR ks a a')
        (br (decide (b.length ≤ 1048576))
          (br (eqR ks b b')
            (br (decide (c.length ≤ 1048576)) (R (some { av := AV.val (Value.bool (eqR kl c c')), obs := [], outs := [] }))
              False)
            (R (some { av := AV.val (Value.bool false), obs := [], outs := [] })))
          False)
        (R (some { av := AV.val (Value.bool false), obs := [], outs := [] })))
      False) := by kernel_rfl
theorem h43 : G1Ok Try.prog 43 g37 := by
  intro args obs k h
  unfold g37 at h
  split at h
  · rename_i k a b c a' b' c'
    unfold smD at h
    obtain ⟨hp, hc, h⟩ := brb2 h
    rw [Bool.and_eq_true] at hp
    refine ⟨_, ctr_fn ok0 hg43 Try.func43 (by kernel_rfl) (by kernel_rfl) (by kernel_rfl) fun C => ?_, h⟩
    rw [e43]
    unfold eqD
    refine br_t hp.1 (br_intro (fun h1 => br_t hp.2 (br_intro (fun h2 => br_t hc ?_) (fun h2 => ?_))) (fun h1 => ?_))
    · show _ = _
      rw [h1, h2]
      rfl
    · show _ = _
      rw [h2, Bool.and_false]
      rfl
    · show _ = _
      rw [h1]
      rfl
  · exact h.elim
def g86 : G1
  | [.rsl [.str] xs, .rsl [.str] ys], [], k => br (decide (xs.length ≤ 1048576)) (k ⟨.val (.bool (eqR ks xs ys)), [], []⟩) False
  | _, _, _ => False
noncomputable def E86 : Env := E0.of Try.f86
noncomputable def G86 : Gk := gk []
noncomputable def lp86 (n : Nat) : Code := (loopOf n (codeOf Try.f86)).getD .skip
noncomputable def ct86 (L : Lp) (R : Option Res → Prop) (n : Nat) : Kt := contOf E86 G86 L n (codeOf Try.f86) (endK E86 Try.f86.results.toList R)
noncomputable def rk86 (L : Lp) (R : Option Res → Prop) (n : Nat) (N : St → Prop) : Kt := rk (jof E86 (lp86 n)) N (ct86 L R n)
noncomputable def LOOP86 (L : Lp) (R : Option Res → Prop) (n : Nat) (st : St) : Prop := L (lp86 n) st (ct86 L R n)
theorem hg86 : HG Try.prog G86 := hg_nil
theorem okf86 : Ok Try.prog E86 := ok0.of Try.f86
theorem e86 (L : Lp) (R : Option Res → Prop) (xs ys : List (Elem ks)) : (bodyP E0 G86 L Try.f86 [.rsl ks xs, .rsl ks ys] [] R) = (
    br ((↑xs.length : Int) != (↑ys.length : Int)) (R (some { av := AV.val (Value.bool false), obs := [], outs := [] }))
      (LOOP86 L R 4
        {
          tm :=
            [AV.rsl [CK.str] xs, AV.rsl [CK.str] ys, AV.val (Value.tuple #[]), AV.val (Value.tuple #[]),
              AV.val (Value.bool false), AV.val (Value.int IntKind.i64 0), AV.rsl [CK.str] xs,
              AV.val (Value.int IntKind.i64 (↑xs.length : Int)), AV.rsl [CK.str] ys,
              AV.val (Value.int IntKind.i64 (↑ys.length : Int)),
              AV.val (Value.bool ((↑xs.length : Int) != (↑ys.length : Int))), AV.junk, AV.junk, AV.junk, AV.junk, AV.junk,
              AV.junk, AV.junk, AV.junk, AV.junk, AV.junk, AV.junk, AV.junk, AV.junk, AV.junk, AV.junk],
          ob := [], nx := 1000000, ps := [] })) := by kernel_rfl
def st86 (xs ys : List (Elem ks)) (i : Int) : St :=
  ⟨[AV.rsl [CK.str] xs, AV.rsl [CK.str] ys, AV.val (Value.tuple #[]), AV.val (Value.tuple #[]), AV.val (Value.bool false), .val (.int .i64 i), AV.rsl [CK.str] xs, AV.val (Value.int IntKind.i64 (↑xs.length : Int)), AV.rsl [CK.str] ys, AV.val (Value.int IntKind.i64 (↑ys.length : Int)), AV.val (Value.bool ((↑xs.length : Int) != (↑ys.length : Int))), AV.junk, AV.junk, AV.junk, AV.junk, AV.junk, AV.junk, AV.junk, AV.junk, AV.junk, AV.junk, AV.junk, AV.junk, AV.junk, AV.junk, AV.junk],
    [], 1000000, []⟩
theorem b86 (L : Lp) (R : Option Res → Prop) (N : St → Prop) (xs ys : List (Elem ks)) (i : Int) : (evP E86 G86 L (lp86 4) (st86 xs ys i) (rk86 L R 4 N)) = (
    br (decide (i < (↑xs.length : Int)))
      (br (decide (0 ≤ i ∧ i < (↑xs.length : Int)))
        (br (decide (0 ≤ i ∧ i < (↑ys.length : Int)))
          (br (!strEq (xs.getD i.toNat (edflt [CK.str])).fst (ys.getD i.toNat (edflt [CK.str])).fst)
            (R (some { av := AV.val (Value.bool false), obs := [], outs := [] }))
            (N
              {
                tm :=
                  [AV.rsl [CK.str] xs, AV.rsl [CK.str] ys, AV.val (Value.tuple #[]), AV.val (Value.tuple #[]),
                    AV.val (Value.bool false), AV.val (Value.int IntKind.i64 (IntKind.i64.wrap (i + 1))),
                    AV.rsl [CK.str] xs, AV.val (Value.int IntKind.i64 (↑xs.length : Int)), AV.rsl [CK.str] ys,
                    AV.val (Value.int IntKind.i64 (↑ys.length : Int)),
                    AV.val (Value.bool ((↑xs.length : Int) != (↑ys.length : Int))), AV.junk, AV.junk, AV.junk, AV.junk,
                    AV.junk, AV.junk, AV.junk, AV.junk, AV.junk, AV.junk, AV.junk, AV.junk, AV.junk, AV.junk, AV.junk],
                ob := [], nx := 1000000, ps := [] }))
          False)
        False)
      (R (some { av := AV.val (Value.bool true), obs := [], outs := [] }))) := by kernel_rfl
theorem h86 : G1Ok Try.prog 86 g86 := by
  intro args obs k h
  unfold g86 at h
  split at h
  · rename_i k xs ys
    obtain ⟨hlen, h⟩ := brd h
    refine ⟨_, ctr_fn ok0 hg86 Try.func86 (by kernel_rfl) (by kernel_rfl) (by kernel_rfl) fun C => ?_, h⟩
    rw [e86]
    refine br_intro (fun hb => ?_) (fun hb => ?_)
    · show _ = _
      rw [show eqR ks xs ys = false from eqL_len (fun e => by rw [e] at hb; simp at hb)]
    have hl : xs.length = ys.length := by simp at hb; omega
    exact loopAll okf86 hg86 (fun i => st86 xs ys i) xs.length (fun i => elemEq ks (xs.getD i (edflt ks)) (ys.getD i (edflt ks))) (by omega) (fun N i hi hw next fails done => by
      show evP E86 G86 _ (lp86 4) (st86 xs ys i) (rk86 _ _ 4 _)
      rw [b86, hw, Int.toNat_natCast]
      refine br_dec (fun h2 => br_yes ⟨by omega, h2⟩ (br_yes ⟨by omega, by omega⟩ (br_not (fun h3 => ?_) (fun h3 => ?_)))) (fun h2 => ?_)
      · show _ = _
        rw [show eqR ks xs ys = false from (eqL_of hl).trans (fails (by omega) h3)]
      · exact next (by omega) h3
      · show _ = _
        rw [show eqR ks xs ys = true from (eqL_of hl).trans (done (by omega))])
  · exact h.elim
noncomputable def E41 : Env := E0.of Try.f41
noncomputable def G41 : Gk := gk [(86, g86)]
noncomputable def lp41 (n : Nat) : Code := (loopOf n (codeOf Try.f41)).getD .skip
noncomputable def ct41 (L : Lp) (R : Option Res → Prop) (n : Nat) : Kt := contOf E41 G41 L n (codeOf Try.f41) (endK E41 Try.f41.results.toList R)
noncomputable def rk41 (L : Lp) (R : Option Res → Prop) (n : Nat) (N : St → Prop) : Kt := rk (jof E41 (lp41 n)) N (ct41 L R n)
noncomputable def LOOP41 (L : Lp) (R : Option Res → Prop) (n : Nat) (st : St) : Prop := L (lp41 n) st (ct41 L R n)
theorem hg41 : HG Try.prog G41 := (hg_cons h86 hg_nil)
theorem okf41 : Ok Try.prog E41 := ok0.of Try.f41
theorem e41 (L : Lp) (R : Option Res → Prop) (a b a' b' : List (Elem ks)) (c c' : List (Elem kl)) : (bodyP E0 G41 L Try.f41 [.agg [.rsl ks a, .rsl ks b, .rsl kl c], .agg [.rsl ks a', .rsl ks b', .rsl kl c']] [] R) = (
    br (decide (a.length ≤ 1048576))
      (br (!eqR ks a a') (R (some { av := AV.val (Value.bool false), obs := [], outs := [] }))
        (br (decide (b.length ≤ 1048576))
          (br (!eqR ks b b') (R (some { av := AV.val (Value.bool false), obs := [], outs := [] }))
            (br ((↑c.length : Int) != (↑c'.length : Int))
              (R (some { av := AV.val (Value.bool false), obs := [], outs := [] }))
              (LOOP41 L R 4
                {
                  tm :=
                    [AV.agg
                        [AV.rsl [CK.str] a, AV.rsl [CK.str] b, AV.rsl [CK.int IntKind.i64, CK.int IntKind.i64, CK.str] c],
                      AV.agg
                        [AV.rsl [CK.str] a', AV.rsl [CK.str] b',
                          AV.rsl [CK.int IntKind.i64, CK.int IntKind.i64, CK.str] c'],
                      AV.ptr 0 0, AV.ptr 1 0, AV.val (Value.bool false), AV.val (Value.int IntKind.i64 0), AV.ptr 0 0,
                      AV.ptr 0 0, AV.rsl [CK.str] a, AV.ptr 1 0, AV.ptr 1 0, AV.rsl [CK.str] a',
                      AV.val (Value.bool (eqR ks a a')), AV.val (Value.bool !eqR ks a a'), AV.val (Value.bool false),
                      AV.ptr 0 0, AV.ptr 0 1, AV.rsl [CK.str] b, AV.ptr 1 0, AV.ptr 1 1, AV.rsl [CK.str] b',
                      AV.val (Value.bool (eqR ks b b')), AV.val (Value.bool !eqR ks b b'), AV.val (Value.bool !eqR ks b b'),
                      AV.val (Value.bool false), AV.ptr 0 2, AV.rsl [CK.int IntKind.i64, CK.int IntKind.i64, CK.str] c,
                      AV.val (Value.int IntKind.i64 (↑c.length : Int)), AV.ptr 1 2,
                      AV.rsl [CK.int IntKind.i64, CK.int IntKind.i64, CK.str] c',
                      AV.val (Value.int IntKind.i64 (↑c'.length : Int)),
                      AV.val (Value.bool ((↑c.length : Int) != (↑c'.length : Int))),
                      AV.val (Value.bool ((↑c.length : Int) != (↑c'.length : Int))), AV.junk, AV.junk, AV.junk, AV.junk,
                      AV.junk, AV.junk, AV.junk, AV.junk, AV.junk, AV.junk, AV.junk, AV.junk, AV.junk, AV.junk, AV.junk,
                      AV.junk, AV.junk, AV.junk],
                  ob :=
                    [(0,
                        AO.box
                          [AV.rsl [CK.str] a, AV.rsl [CK.str] b,
                            AV.rsl [CK.int IntKind.i64, CK.int IntKind.i64, CK.str] c]),
                      (1,
                        AO.box
                          [AV.rsl [CK.str] a', AV.rsl [CK.str] b',
                            AV.rsl [CK.int IntKind.i64, CK.int IntKind.i64, CK.str] c'])],
                  nx := 1000000, ps := [] })))
          False))
      False) := by kernel_rfl
def st41 (a b a' b' : List (Elem ks)) (c c' : List (Elem kl)) (i : Int) : St :=
  ⟨[AV.agg [AV.rsl [CK.str] a, AV.rsl [CK.str] b, AV.rsl [CK.int IntKind.i64, CK.int IntKind.i64, CK.str] c], AV.agg [AV.rsl [CK.str] a', AV.rsl [CK.str] b', AV.rsl [CK.int IntKind.i64, CK.int IntKind.i64, CK.str] c'], AV.ptr 0 0, AV.ptr 1 0, AV.val (Value.bool false), .val (.int .i64 i), AV.ptr 0 0, AV.ptr 0 0, AV.rsl [CK.str] a, AV.ptr 1 0, AV.ptr 1 0, AV.rsl [CK.str] a', AV.val (Value.bool (eqR ks a a')), AV.val (Value.bool !eqR ks a a'), AV.val (Value.bool false), AV.ptr 0 0, AV.ptr 0 1, AV.rsl [CK.str] b, AV.ptr 1 0, AV.ptr 1 1, AV.rsl [CK.str] b', AV.val (Value.bool (eqR ks b b')), AV.val (Value.bool !eqR ks b b'), AV.val (Value.bool !eqR ks b b'), AV.val (Value.bool false), AV.ptr 0 2, AV.rsl [CK.int IntKind.i64, CK.int IntKind.i64, CK.str] c, AV.val (Value.int IntKind.i64 (↑c.length : Int)), AV.ptr 1 2, AV.rsl [CK.int IntKind.i64, CK.int IntKind.i64, CK.str] c', AV.val (Value.int IntKind.i64 (↑c'.length : Int)), AV.val (Value.bool ((↑c.length : Int) != (↑c'.length : Int))), AV.val (Value.bool ((↑c.length : Int) != (↑c'.length : Int))), AV.junk, AV.junk, AV.junk, AV.junk, AV.junk, AV.junk, AV.junk, AV.junk, AV.junk, AV.junk, AV.junk, AV.junk, AV.junk, AV.junk, AV.junk, AV.junk, AV.junk, AV.junk],
    [(0, AO.box [AV.rsl [CK.str] a, AV.rsl [CK.str] b, AV.rsl [CK.int IntKind.i64, CK.int IntKind.i64, CK.str] c]), (1, AO.box [AV.rsl [CK.str] a', AV.rsl [CK.str] b', AV.rsl [CK.int IntKind.i64, CK.int IntKind.i64, CK.str] c'])], 1000000, []⟩
theorem b41 (L : Lp) (R : Option Res → Prop) (N : St → Prop) (a b a' b' : List (Elem ks)) (c c' : List (Elem kl)) (i : Int) : (evP E41 G41 L (lp41 4) (st41 a b a' b' c c' i) (rk41 L R 4 N)) = (
    br (decide (i < (↑c.length : Int)))
      (br (decide (0 ≤ i ∧ i < (↑c.length : Int)))
        (br (decide (0 ≤ i ∧ i < (↑c'.length : Int)))
          (br
            (!elemEq
                [CK.int IntKind.i64, CK.int IntKind.i64, CK.str]
                (c.getD i.toNat (edflt [CK.int IntKind.i64, CK.int IntKind.i64, CK.str]))
                (c'.getD i.toNat (edflt [CK.int IntKind.i64, CK.int IntKind.i64, CK.str])))
            (R (some { av := AV.val (Value.bool false), obs := [], outs := [] }))
            (N
              {
                tm :=
                  [AV.agg [AV.rsl [CK.str] a, AV.rsl [CK.str] b, AV.rsl [CK.int IntKind.i64, CK.int IntKind.i64, CK.str] c],
                    AV.agg
                      [AV.rsl [CK.str] a', AV.rsl [CK.str] b', AV.rsl [CK.int IntKind.i64, CK.int IntKind.i64, CK.str] c'],
                    AV.ptr 0 0, AV.ptr 1 0, AV.val (Value.bool false),
                    AV.val (Value.int IntKind.i64 (IntKind.i64.wrap (i + 1))), AV.ptr 0 0, AV.ptr 0 0, AV.rsl [CK.str] a,
                    AV.ptr 1 0, AV.ptr 1 0, AV.rsl [CK.str] a', AV.val (Value.bool (eqR ks a a')),
                    AV.val (Value.bool !eqR ks a a'), AV.val (Value.bool false), AV.ptr 0 0, AV.ptr 0 1, AV.rsl [CK.str] b,
                    AV.ptr 1 0, AV.ptr 1 1, AV.rsl [CK.str] b', AV.val (Value.bool (eqR ks b b')),
                    AV.val (Value.bool !eqR ks b b'), AV.val (Value.bool !eqR ks b b'), AV.val (Value.bool false),
                    AV.ptr 0 2, AV.rsl [CK.int IntKind.i64, CK.int IntKind.i64, CK.str] c,
                    AV.val (Value.int IntKind.i64 (↑c.length : Int)), AV.ptr 1 2,
                    AV.rsl [CK.int IntKind.i64, CK.int IntKind.i64, CK.str] c',
                    AV.val (Value.int IntKind.i64 (↑c'.length : Int)),
                    AV.val (Value.bool ((↑c.length : Int) != (↑c'.length : Int))),
                    AV.val (Value.bool ((↑c.length : Int) != (↑c'.length : Int))), AV.junk, AV.junk, AV.junk, AV.junk,
                    AV.junk, AV.junk, AV.junk, AV.junk, AV.junk, AV.junk, AV.junk, AV.junk, AV.junk, AV.junk, AV.junk,
                    AV.junk, AV.junk, AV.junk],
                ob :=
                  [(0,
                      AO.box
                        [AV.rsl [CK.str] a, AV.rsl [CK.str] b, AV.rsl [CK.int IntKind.i64, CK.int IntKind.i64, CK.str] c]),
                    (1,
                      AO.box
                        [AV.rsl [CK.str] a', AV.rsl [CK.str] b',
                          AV.rsl [CK.int IntKind.i64, CK.int IntKind.i64, CK.str] c'])],
                nx := 1000000, ps := [] }))
          False)
        False)
      (R (some { av := AV.val (Value.bool true), obs := [], outs := [] }))) := by kernel_rfl
theorem h41 : G1Ok Try.prog 41 g37 := by
  intro args obs k h
  unfold g37 at h
  split at h
  · rename_i k a b c a' b' c'
    unfold smD at h
    obtain ⟨hp, hc, h⟩ := brb2 h
    rw [Bool.and_eq_true] at hp
    rw [decide_eq_true_eq] at hc
    refine ⟨_, ctr_fn ok0 hg41 Try.func41 (by kernel_rfl) (by kernel_rfl) (by kernel_rfl) fun C => ?_, h⟩
    rw [e41]
    unfold eqD
    refine br_t hp.1 (br_not (fun h1 => ?_) (fun h1 => br_t hp.2 (br_not (fun h2' => ?_) (fun h2' => br_intro (fun h3 => ?_) (fun h3 => ?_)))))
    · show _ = _
      rw [h1]
      rfl
    · show _ = _
      rw [h2', Bool.and_false]
      rfl
    · show _ = _
      rw [show eqR kl c c' = false from eqL_len (fun e => by rw [e] at h3; simp at h3), Bool.and_false]
    have hl : c.length = c'.length := by simp at h3; omega
    exact loopAll okf41 hg41 (fun i => st41 a b a' b' c c' i) c.length (fun i => elemEq kl (c.getD i (edflt kl)) (c'.getD i (edflt kl))) (by omega) (fun N i hi hw next fails done => by
      show evP E41 G41 _ (lp41 4) (st41 a b a' b' c c' i) (rk41 _ _ 4 _)
      rw [b41, hw, Int.toNat_natCast]
      refine br_dec (fun h2 => br_yes ⟨by omega, h2⟩ (br_yes ⟨by omega, by omega⟩ (br_not (fun h3 => ?_) (fun h3 => ?_)))) (fun h2 => ?_)
      · show _ = _
        rw [show eqR kl c c' = false from (eqL_of hl).trans (fails (by omega) h3), Bool.and_false]
      · exact next (by omega) h3
      · show _ = _
        rw [show eqR kl c c' = true from (eqL_of hl).trans (done (by omega)), h1, h2']
        rfl)
  · exact h.elim
noncomputable def E9 : Env := E0.of Try.f9
noncomputable def G9 : Gk := gk [(37, g37), (40, g40), (41, g37), (42, g42), (43, g37)]
noncomputable def lp9 (n : Nat) : Code := (loopOf n (codeOf Try.f9)).getD .skip
noncomputable def ct9 (L : Lp) (R : Option Res → Prop) (n : Nat) : Kt := contOf E9 G9 L n (codeOf Try.f9) (endK E9 Try.f9.results.toList R)
noncomputable def rk9 (L : Lp) (R : Option Res → Prop) (n : Nat) (N : St → Prop) : Kt := rk (jof E9 (lp9 n)) N (ct9 L R n)
noncomputable def LOOP9 (L : Lp) (R : Option Res → Prop) (n : Nat) (st : St) : Prop := L (lp9 n) st (ct9 L R n)
theorem hg9 : HG Try.prog G9 := (hg_cons h37 (hg_cons h40 (hg_cons h41 (hg_cons h42 (hg_cons h43 hg_nil)))))
theorem okf9 : Ok Try.prog E9 := ok0.of Try.f9
theorem e9 (L : Lp) (R : Option Res → Prop) (a b a' b' : List (Elem ks)) (c c' : List (Elem kl)) : (bodyP E0 G9 L Try.f9 [.agg [.rsl ks a, .rsl ks b, .rsl kl c], .agg [.rsl ks a', .rsl ks b', .rsl kl c']] [] R) = (
    br (inD a b c && true)
      (br (decide (szR 1048576 (szD a b c) < 0)) (R (some { av := AV.val (Value.bool true), obs := [], outs := [] }))
        (br (inD a' b' c' && inL (szR 1048576 (szD a b c)))
          (br (decide (szR (szR 1048576 (szD a b c)) (szD a' b' c') < 0))
            (R (some { av := AV.val (Value.bool true), obs := [], outs := [] }))
            (br (smD a b c)
              (br (smD a' b' c')
                (br (smD a b c)
                  (br (smD a b c)
                    (br (smD a' b' c')
                      (br (smD a b c)
                        (br (!eqD a b c a' b' c' == eqD a b c a' b' c')
                          (R (some { av := AV.val (Value.bool false), obs := [], outs := [] }))
                          (br (smD a b c)
                            (br (smD a b c)
                              (br (!eqD a b c a b c) (R (some { av := AV.val (Value.bool false), obs := [], outs := [] }))
                                (br (smD a' b' c')
                                  (br (smD a' b' c')
                                    (br (!eqD a' b' c' a' b' c')
                                      (R (some { av := AV.val (Value.bool false), obs := [], outs := [] }))
                                      (R (some { av := AV.val (Value.bool true), obs := [], outs := [] })))
                                    False)
                                  False))
                              False)
                            False))
                        False)
                      False)
                    False)
                  False)
                False)
              False))
          False))
      False) := by kernel_rfl
theorem inL_szR {l : Int} {t : Nat} (hl : l ≤ 1048576) (h : ¬ szR l t < 0) : inL (szR l t) = true := by
  have := szR_ge0 h
  rw [szR_pos this]
  simp only [inL, decide_eq_true_eq]
  omega
theorem szR_le {l : Int} {t : Nat} (hl : l ≤ 1048576) : szR l t ≤ 1048576 := by
  unfold szR
  split <;> omega
theorem c9 (a b : List (Elem ks)) (c : List (Elem kl)) (a' b' : List (Elem ks)) (c' : List (Elem kl)) (h : dOk a b c) (h' : dOk a' b' c') :
    Ctr Try.prog 9 [.agg [.rsl ks a, .rsl ks b, .rsl kl c], .agg [.rsl ks a', .rsl ks b', .rsl kl c']] [] ⟨.val (.bool true), [], []⟩ := by
  refine ctr_fn ok0 hg9 Try.func9 (by kernel_rfl) (by kernel_rfl) (by kernel_rfl) fun C => ?_
  rw [e9, inD_of h, inD_of h', eqD_self, eqD_self]
  refine br_t rfl (br_dec (fun _ => rfl) (fun h1 => ?_))
  refine br_t (by rw [inL_szR (by omega) h1]; rfl) (br_dec (fun _ => rfl) (fun h2 => ?_))
  have d1 := smD_of (by omega) h1
  have d2 := smD_of (szR_le (by omega)) h2
  refine br_t d1 (br_t d2 (br_t d1 (br_t d1 (br_t d2 (br_t d1 (br_not (fun h => ?_) (fun h => ?_)))))))
  · simp at h
  exact br_t d1 (br_t d1 (br_not (fun h => by cases h) (fun h => br_t d2 (br_t d2 (br_not (fun h => by cases h) (fun h => rfl))))))
end Go.Proofs.Ytjhjhkphcemcmaa.Ev
