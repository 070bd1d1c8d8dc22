/- The law of BookSame. -/
import Derived.Test.YtjhjhkphcemcmaaF7
import Derived.Test.YtjhjhkphcemcmaaEv23
namespace Go.Proofs.Ytjhjhkphcemcmaa.Ev
open Go
set_option linter.unusedVariables false
set_option linter.unusedSimpArgs false
set_option maxRecDepth 100000
noncomputable def E33 : Env := E0.of Try.f33
noncomputable def G33 : Gk := gk [(76, g76)]
noncomputable def lp33 (n : Nat) : Code := (loopOf n (codeOf Try.f33)).getD .skip
noncomputable def ct33 (L : Lp) (R : Option Res → Prop) (n : Nat) : Kt := contOf E33 G33 L n (codeOf Try.f33) (endK E33 Try.f33.results.toList R)
noncomputable def rk33 (L : Lp) (R : Option Res → Prop) (n : Nat) (N : St → Prop) : Kt := rk (jof E33 (lp33 n)) N (ct33 L R n)
noncomputable def LOOP33 (L : Lp) (R : Option Res → Prop) (n : Nat) (st : St) : Prop := L (lp33 n) st (ct33 L R n)
theorem hg33 : HG Try.prog G33 := (hg_cons h76 hg_nil)
theorem okf33 : Ok Try.prog E33 := ok0.of Try.f33
theorem e33 (L : Lp) (R : Option Res → Prop) (xs ys : List (Elem kb)) : (bodyP E0 G33 L Try.f33 [.agg [.rsl kb xs], .agg [.rsl kb ys]] [] R) = (
    br (decide (xs.length ≤ 1048576)) (R (some { av := AV.val (Value.bool (eqR kb xs ys)), obs := [], outs := [] })) False) := by kernel_rfl
theorem h33 : G1Ok Try.prog 33 g34 := by
  intro args obs k h
  unfold g34 at h
  split at h
  · rename_i k xs ys
    obtain ⟨hlen, h⟩ := brd h
    refine ⟨_, ctr_fn ok0 hg33 Try.func33 (by kernel_rfl) (by kernel_rfl) (by kernel_rfl) fun C => ?_, h⟩
    rw [e33]
    exact br_yes hlen rfl
  · exact h.elim
noncomputable def E31 : Env := E0.of Try.f31
noncomputable def G31 : Gk := gk []
noncomputable def lp31 (n : Nat) : Code := (loopOf n (codeOf Try.f31)).getD .skip
noncomputable def ct31 (L : Lp) (R : Option Res → Prop) (n : Nat) : Kt := contOf E31 G31 L n (codeOf Try.f31) (endK E31 Try.f31.results.toList R)
noncomputable def rk31 (L : Lp) (R : Option Res → Prop) (n : Nat) (N : St → Prop) : Kt := rk (jof E31 (lp31 n)) N (ct31 L R n)
noncomputable def LOOP31 (L : Lp) (R : Option Res → Prop) (n : Nat) (st : St) : Prop := L (lp31 n) st (ct31 L R n)
theorem hg31 : HG Try.prog G31 := hg_nil
theorem okf31 : Ok Try.prog E31 := ok0.of Try.f31
theorem e31 (L : Lp) (R : Option Res → Prop) (xs ys : List (Elem kb)) : (bodyP E0 G31 L Try.f31 [.agg [.rsl kb xs], .agg [.rsl kb ys]] [] R) = (
    br ((↑xs.length : Int) != (↑ys.length : Int)) (R (some { av := AV.val (Value.bool false), obs := [], outs := [] }))
      (LOOP31 L R 4
        {
          tm :=
            [AV.agg
                [AV.rsl [CK.str, CK.int IntKind.i64, CK.str, CK.str, CK.str, CK.str, CK.str, CK.str, CK.str, CK.str, CK.str]
                    xs],
              AV.agg
                [AV.rsl [CK.str, CK.int IntKind.i64, CK.str, CK.str, CK.str, CK.str, CK.str, CK.str, CK.str, CK.str, CK.str]
                    ys],
              AV.ptr 0 0, AV.ptr 1 0, AV.val (Value.bool false), AV.val (Value.int IntKind.i64 0), AV.ptr 0 0,
              AV.rsl [CK.str, CK.int IntKind.i64, CK.str, CK.str, CK.str, CK.str, CK.str, CK.str, CK.str, CK.str, CK.str]
                xs,
              AV.val (Value.int IntKind.i64 (↑xs.length : Int)), AV.ptr 1 0,
              AV.rsl [CK.str, CK.int IntKind.i64, CK.str, CK.str, CK.str, CK.str, CK.str, CK.str, CK.str, CK.str, CK.str]
                ys,
              AV.val (Value.int IntKind.i64 (↑ys.length : Int)),
              AV.val (Value.bool ((↑xs.length : Int) != (↑ys.length : Int))), AV.junk, AV.junk, AV.junk, AV.junk, AV.junk,
              AV.junk, AV.junk, AV.junk, AV.junk, AV.junk, AV.junk, AV.junk, AV.junk, AV.junk, AV.junk, AV.junk, AV.junk,
              AV.junk],
          ob :=
            [(0,
                AO.box
                  [AV.rsl
                      [CK.str, CK.int IntKind.i64, CK.str, CK.str, CK.str, CK.str, CK.str, CK.str, CK.str, CK.str, CK.str]
                      xs]),
              (1,
                AO.box
                  [AV.rsl
                      [CK.str, CK.int IntKind.i64, CK.str, CK.str, CK.str, CK.str, CK.str, CK.str, CK.str, CK.str, CK.str]
                      ys])],
          nx := 1000000, ps := [] })) := by kernel_rfl
def st31 (xs ys : List (Elem kb)) (i : Int) : St :=
  ⟨[AV.agg [AV.rsl [CK.str, CK.int IntKind.i64, CK.str, CK.str, CK.str, CK.str, CK.str, CK.str, CK.str, CK.str, CK.str] xs], AV.agg [AV.rsl [CK.str, CK.int IntKind.i64, CK.str, CK.str, CK.str, CK.str, CK.str, CK.str, CK.str, CK.str, CK.str] ys], AV.ptr 0 0, AV.ptr 1 0, AV.val (Value.bool false), .val (.int .i64 i), AV.ptr 0 0, AV.rsl [CK.str, CK.int IntKind.i64, CK.str, CK.str, CK.str, CK.str, CK.str, CK.str, CK.str, CK.str, CK.str] xs, AV.val (Value.int IntKind.i64 (↑xs.length : Int)), AV.ptr 1 0, AV.rsl [CK.str, CK.int IntKind.i64, CK.str, CK.str, CK.str, CK.str, CK.str, CK.str, CK.str, CK.str, CK.str] ys, AV.val (Value.int IntKind.i64 (↑ys.length : Int)), AV.val (Value.bool ((↑xs.length : Int) != (↑ys.length : Int))), AV.junk, AV.junk, AV.junk, AV.junk, AV.junk, AV.junk, AV.junk, AV.junk, AV.junk, AV.junk, AV.junk, AV.junk, AV.junk, AV.junk, AV.junk, AV.junk, AV.junk, AV.junk],
    [(0, AO.box [AV.rsl [CK.str, CK.int IntKind.i64, CK.str, CK.str, CK.str, CK.str, CK.str, CK.str, CK.str, CK.str, CK.str] xs]), (1, AO.box [AV.rsl [CK.str, CK.int IntKind.i64, CK.str, CK.str, CK.str, CK.str, CK.str, CK.str, CK.str, CK.str, CK.str] ys])], 1000000, []⟩
theorem b31 (L : Lp) (R : Option Res → Prop) (N : St → Prop) (xs ys : List (Elem kb)) (i : Int) : (evP E31 G31 L (lp31 4) (st31 xs ys i) (rk31 L R 4 N)) = (
    br (decide (i < (↑xs.length : Int)))
      (br (decide (0 ≤ i ∧ i < (↑xs.length : Int)))
        (br (decide (0 ≤ i ∧ i < (↑ys.length : Int)))
          (br
            (!elemEq
                [CK.str, CK.int IntKind.i64, CK.str, CK.str, CK.str, CK.str, CK.str, CK.str, CK.str, CK.str,
                        CK.str]
                (xs.getD i.toNat
                  (edflt
                    [CK.str, CK.int IntKind.i64, CK.str, CK.str, CK.str, CK.str, CK.str, CK.str, CK.str, CK.str, CK.str]))
                (ys.getD i.toNat
                  (edflt
                    [CK.str, CK.int IntKind.i64, CK.str, CK.str, CK.str, CK.str, CK.str, CK.str, CK.str, CK.str, CK.str])))
            (R (some { av := AV.val (Value.bool false), obs := [], outs := [] }))
            (N
              {
                tm :=
                  [AV.agg
                      [AV.rsl
                          [CK.str, CK.int IntKind.i64, CK.str, CK.str, CK.str, CK.str, CK.str, CK.str, CK.str, CK.str,
                            CK.str]
                          xs],
                    AV.agg
                      [AV.rsl
                          [CK.str, CK.int IntKind.i64, CK.str, CK.str, CK.str, CK.str, CK.str, CK.str, CK.str, CK.str,
                            CK.str]
                          ys],
                    AV.ptr 0 0, AV.ptr 1 0, AV.val (Value.bool false),
                    AV.val (Value.int IntKind.i64 (IntKind.i64.wrap (i + 1))), AV.ptr 0 0,
                    AV.rsl
                      [CK.str, CK.int IntKind.i64, CK.str, CK.str, CK.str, CK.str, CK.str, CK.str, CK.str, CK.str, CK.str]
                      xs,
                    AV.val (Value.int IntKind.i64 (↑xs.length : Int)), AV.ptr 1 0,
                    AV.rsl
                      [CK.str, CK.int IntKind.i64, CK.str, CK.str, CK.str, CK.str, CK.str, CK.str, CK.str, CK.str, CK.str]
                      ys,
                    AV.val (Value.int IntKind.i64 (↑ys.length : Int)),
                    AV.val (Value.bool ((↑xs.length : Int) != (↑ys.length : Int))), AV.junk, AV.junk, AV.junk, AV.junk,
                    AV.junk, AV.junk, AV.junk, AV.junk, AV.junk, AV.junk, AV.junk, AV.junk, AV.junk, AV.junk, AV.junk,
                    AV.junk, AV.junk, AV.junk],
                ob :=
                  [(0,
                      AO.box
                        [AV.rsl
                            [CK.str, CK.int IntKind.i64, CK.str, CK.str, CK.str, CK.str, CK.str, CK.str, CK.str, CK.str,
                              CK.str]
                            xs]),
                    (1,
                      AO.box
                        [AV.rsl
                            [CK.str, CK.int IntKind.i64, CK.str, CK.str, CK.str, CK.str, CK.str, CK.str, CK.str, CK.str,
                              CK.str]
                            ys])],
                nx := 1000000, ps := [] }))
          False)
        False)
      (R (some { av := AV.val (Value.bool true), obs := [], outs := [] }))) := by kernel_rfl
theorem h31 : G1Ok Try.prog 31 g34 := by
  intro args obs k h
  unfold g34 at h
  split at h
  · rename_i k xs ys
    obtain ⟨hlen, h⟩ := brd h
    refine ⟨_, ctr_fn ok0 hg31 Try.func31 (by kernel_rfl) (by kernel_rfl) (by kernel_rfl) fun C => ?_, h⟩
    rw [e31]
    refine br_intro (fun hb => ?_) (fun hb => ?_)
    · show _ = _
      rw [show eqR kb xs ys = false from eqL_len (fun e => by rw [e] at hb; simp at hb)]
    have hl : xs.length = ys.length := by simp at hb; omega
    exact loopAll okf31 hg31 (fun i => st31 xs ys i) xs.length (fun i => elemEq kb (xs.getD i (edflt kb)) (ys.getD i (edflt kb))) (by omega) (fun N i hi hw next fails done => by
      show evP E31 G31 _ (lp31 4) (st31 xs ys i) (rk31 _ _ 4 _)
      rw [b31, hw, Int.toNat_natCast]
      refine br_dec (fun h2 => br_yes ⟨by omega, h2⟩ (br_yes ⟨by omega, by omega⟩ (br_not (fun h3 => ?_) (fun h3 => ?_)))) (fun h2 => ?_)
      · show _ = _
        rw [show eqR kb xs ys = false from (eqL_of hl).trans (fails (by omega) h3)]
      · exact next (by omega) h3
      · show _ = _
        rw [show eqR kb xs ys = true from (eqL_of hl).trans (done (by omega))])
  · exact h.elim
noncomputable def E7 : Env := E0.of Try.f7
noncomputable def G7 : Gk := gk [(30, g30), (31, g34), (32, g32), (33, g34), (34, g34)]
noncomputable def lp7 (n : Nat) : Code := (loopOf n (codeOf Try.f7)).getD .skip
noncomputable def ct7 (L : Lp) (R : Option Res → Prop) (n : Nat) : Kt := contOf E7 G7 L n (codeOf Try.f7) (endK E7 Try.f7.results.toList R)
noncomputable def rk7 (L : Lp) (R : Option Res → Prop) (n : Nat) (N : St → Prop) : Kt := rk (jof E7 (lp7 n)) N (ct7 L R n)
noncomputable def LOOP7 (L : Lp) (R : Option Res → Prop) (n : Nat) (st : St) : Prop := L (lp7 n) st (ct7 L R n)
theorem hg7 : HG Try.prog G7 := (hg_cons h30 (hg_cons h31 (hg_cons h32 (hg_cons h33 (hg_cons h34 hg_nil)))))
theorem okf7 : Ok Try.prog E7 := ok0.of Try.f7
theorem e7 (L : Lp) (R : Option Res → Prop) (xs ys : List (Elem kb)) : (bodyP E0 G7 L Try.f7 [.agg [.rsl kb xs], .agg [.rsl kb ys]] [] R) = (
    br (inBs xs && true)
      (br (decide (szR 1048576 (szBs xs) < 0)) (R (some { av := AV.val (Value.bool true), obs := [], outs := [] }))
        (br (inBs ys && inL (szR 1048576 (szBs xs)))
          (br (decide (szR (szR 1048576 (szBs xs)) (szBs ys) < 0))
            (R (some { av := AV.val (Value.bool true), obs := [], outs := [] }))
            (br (decide (xs.length ≤ 1048576))
              (br (decide (ys.length ≤ 1048576))
                (br (decide (xs.length ≤ 1048576))
                  (br (decide (xs.length ≤ 1048576))
                    (br (decide (ys.length ≤ 1048576))
                      (br (decide (xs.length ≤ 1048576))
                        (br (!eqR kb xs ys == eqR kb xs ys)
                          (R (some { av := AV.val (Value.bool false), obs := [], outs := [] }))
                          (br (decide (xs.length ≤ 1048576))
                            (br (decide (xs.length ≤ 1048576))
                              (br (!eqR kb xs xs) (R (some { av := AV.val (Value.bool false), obs := [], outs := [] }))
                                (br (decide (ys.length ≤ 1048576))
                                  (br (decide (ys.length ≤ 1048576))
                                    (br (!eqR kb ys ys)
                                      (R (some { av := AV.val (Value.bool false), obs := [], outs := [] }))
                                      (R (some { av := AV.val (Value.bool true), obs := [], outs := [] })))
                                    False)
                                  False))
                              False)
                            False))
                        False)
                      False)
                    False)
                  False)
                False)
              False))
          False))
      False) := by kernel_rfl
theorem inBs_of {xs : List (Elem kb)} (h : xs.length ≤ maxLen ∧ ∀ e ∈ xs, elemOk kb e) : inBs xs = true := by
  unfold inBs
  rw [Bool.and_eq_true, decide_eq_true_eq, List.all_eq_true]
  refine ⟨h.1, fun e he => ?_⟩
  obtain ⟨h0, _, h2, a0, a1, a2, a3, a4, a5, a6, a7, _⟩ := h.2 e he
  simp only [inB, in8, inS, Bool.and_eq_true, decide_eq_true_eq]
  exact ⟨⟨h0, h2⟩, ⟨⟨⟨⟨⟨⟨⟨a0, a1⟩, a2⟩, a3⟩, a4⟩, a5⟩, a6⟩, a7⟩⟩
theorem szBs_len {xs : List (Elem kb)} {l : Int} (h : ¬ szR l (szBs xs) < 0) : (xs.length : Int) ≤ l := by
  have := szR_ge0 h
  unfold szBs at this
  omega
theorem c7 (xs ys : List (Elem kb)) (hx : xs.length ≤ maxLen ∧ ∀ e ∈ xs, elemOk kb e) (hy : ys.length ≤ maxLen ∧ ∀ e ∈ ys, elemOk kb e) :
    Ctr Try.prog 7 [.agg [.rsl kb xs], .agg [.rsl kb ys]] [] ⟨.val (.bool true), [], []⟩ := by
  refine ctr_fn ok0 hg7 Try.func7 (by kernel_rfl) (by kernel_rfl) (by kernel_rfl) fun C => ?_
  rw [e7, inBs_of hx, inBs_of hy, eqR_self, eqR_self]
  refine br_t rfl (br_dec (fun _ => rfl) (fun h1 => ?_))
  have h1' := szR_ge0 h1
  have hl : inL (szR 1048576 (szBs xs)) = true := by
    rw [szR_pos h1']
    simp only [inL, decide_eq_true_eq]
    omega
  have l1 := szBs_len h1
  refine br_t (by rw [hl]; rfl) (br_dec (fun _ => rfl) (fun h2 => ?_))
  have l2 := szBs_len h2
  rw [szR_pos h1'] at l2
  have d1 : xs.length ≤ 1048576 := by omega
  have d2 : ys.length ≤ 1048576 := by omega
  refine br_yes d1 (br_yes d2 (br_yes d1 (br_yes d1 (br_yes d2 (br_yes d1 (br_not (fun h => ?_) (fun h => ?_)))))))
  · simp at h
  refine br_yes d1 (br_yes d1 (br_not (fun h => by cases h) (fun h => br_yes d2 (br_yes d2 (br_not (fun h => by cases h) (fun h => rfl))))))
end Go.Proofs.Ytjhjhkphcemcmaa.Ev
