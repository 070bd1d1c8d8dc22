/- Contracts for cores: sizes, copies. -/
import Derived.Test.YtjhjhkphcemcmaaF15
namespace Go.Proofs.Ytjhjhkphcemcmaa.Ev
open Go
set_option linter.unusedVariables false
set_option linter.unusedSimpArgs false
set_option maxRecDepth 100000
abbrev kc : List CK := [.str, .int .i64, .str, .int .i64, .int .i64, .int .i64, .int .i64, .int .i64, .int .i64, .int .i64, .int .i64, .int .i64, .int .i64, .int .i64, .int .i64, .int .i64, .int .i64, .int .i64, .int .i64, .int .i64, .int .i64, .int .i64, .int .i64, .int .i64, .int .i64, .int .i64, .int .i64, .int .i64, .int .i64, .int .i64, .bool]
abbrev ki : List CK := [.int .i64]
def szC (e : Elem kc) : Nat := e.1.size + e.2.2.1.size
def inC (e : Elem kc) : Bool := inS e.1 && inS e.2.2.1
def g106 : G1
  | [.rsl [.int .i64, .int .i64, .int .i64] xs, .val (.int .i64 l)], [], k => br (decide (xs.length ≤ 9223372036854775807) && inL l) (k ⟨.val (.int .i64 (szR l xs.length)), [], []⟩) False
  | _, _, _ => False
noncomputable def E106 : Env := E0.of Try.f106
noncomputable def G106 : Gk := gk []
noncomputable def lp106 (n : Nat) : Code := (loopOf n (codeOf Try.f106)).getD .skip
noncomputable def ct106 (L : Lp) (R : Option Res → Prop) (n : Nat) : Kt := contOf E106 G106 L n (codeOf Try.f106) (endK E106 Try.f106.results.toList R)
noncomputable def rk106 (L : Lp) (R : Option Res → Prop) (n : Nat) (N : St → Prop) : Kt := rk (jof E106 (lp106 n)) N (ct106 L R n)
noncomputable def LOOP106 (L : Lp) (R : Option Res → Prop) (n : Nat) (st : St) : Prop := L (lp106 n) st (ct106 L R n)
theorem hg106 : HG Try.prog G106 := hg_nil
theorem okf106 : Ok Try.prog E106 := ok0.of Try.f106
theorem e106 (L : Lp) (R : Option Res → Prop) (xs : List (Elem k3)) (l : Int) : (bodyP E0 G106 L Try.f106 [.rsl k3 xs, .val (.int .i64 l)] [] R) = (
    br (decide (IntKind.i64.wrap (l - (↑xs.length : Int)) < 0))
      (R (some { av := AV.val (Value.int IntKind.i64 (-1)), obs := [], outs := [] }))
      (R (some { av := AV.val (Value.int IntKind.i64 (IntKind.i64.wrap (l - (↑xs.length : Int)))), obs := [], outs := [] }))) := by kernel_rfl
theorem h106 : G1Ok Try.prog 106 g106 := by
  intro args obs k h
  unfold g106 at h
  split at h
  · rename_i k xs l
    obtain ⟨hp, hl, h⟩ := brb2 h
    simp only [inL, decide_eq_true_eq] at hl hp
    refine ⟨_, ctr_fn ok0 hg106 Try.func106 (by kernel_rfl) (by kernel_rfl) (by kernel_rfl) fun C => ?_, h⟩
    rw [e106]
    rw [wrap_id (n := l - xs.length) (by omega) (by omega)]
    refine br_dec (fun h => ?_) (fun h => ?_)
    · show _ = _
      rw [szR_neg (by omega)]
    · show _ = _
      rw [szR_pos (by omega)]
  · exact h.elim
def g107 : G1
  | [.rsl [.int .i64] xs, .val (.int .i64 l)], [], k => br (decide (xs.length ≤ 9223372036854775807) && inL l) (k ⟨.val (.int .i64 (szR l xs.length)), [], []⟩) False
  | _, _, _ => False
noncomputable def E107 : Env := E0.of Try.f107
noncomputable def G107 : Gk := gk []
noncomputable def lp107 (n : Nat) : Code := (loopOf n (codeOf Try.f107)).getD .skip
noncomputable def ct107 (L : Lp) (R : Option Res → Prop) (n : Nat) : Kt := contOf E107 G107 L n (codeOf Try.f107) (endK E107 Try.f107.results.toList R)
noncomputable def rk107 (L : Lp) (R : Option Res → Prop) (n : Nat) (N : St → Prop) : Kt := rk (jof E107 (lp107 n)) N (ct107 L R n)
noncomputable def LOOP107 (L : Lp) (R : Option Res → Prop) (n : Nat) (st : St) : Prop := L (lp107 n) st (ct107 L R n)
theorem hg107 : HG Try.prog G107 := hg_nil
theorem okf107 : Ok Try.prog E107 := ok0.of Try.f107
theorem e107 (L : Lp) (R : Option Res → Prop) (xs : List (Elem ki)) (l : Int) : (bodyP E0 G107 L Try.f107 [.rsl ki xs, .val (.int .i64 l)] [] R) = (
    br (decide (IntKind.i64.wrap (l - (↑xs.length : Int)) < 0))
      (R (some { av := AV.val (Value.int IntKind.i64 (-1)), obs := [], outs := [] }))
      (R (some { av := AV.val (Value.int IntKind.i64 (IntKind.i64.wrap (l - (↑xs.length : Int)))), obs := [], outs := [] }))) := by kernel_rfl
theorem h107 : G1Ok Try.prog 107 g107 := by
  intro args obs k h
  unfold g107 at h
  split at h
  · rename_i k xs l
    obtain ⟨hp, hl, h⟩ := brb2 h
    simp only [inL, decide_eq_true_eq] at hl hp
    refine ⟨_, ctr_fn ok0 hg107 Try.func107 (by kernel_rfl) (by kernel_rfl) (by kernel_rfl) fun C => ?_, h⟩
    rw [e107]
    rw [wrap_id (n := l - xs.length) (by omega) (by omega)]
    refine br_dec (fun h => ?_) (fun h => ?_)
    · show _ = _
      rw [szR_neg (by omega)]
    · show _ = _
      rw [szR_pos (by omega)]
  · exact h.elim
def g23s : G1
  | [.rsl [.int .i64, .int .i64, .int .i64] xs, .val (.int .i64 l)], [], k => br (decide (xs.length ≤ 9223372036854775807) && inL l) (k ⟨.val (.int .i64 (szR l xs.length)), [], []⟩) False
  | _, _, _ => False
theorem h23s : G1Ok Try.prog 23 g23s := by
  intro args obs k h
  unfold g23s at h
  split at h
  · rename_i k xs l
    obtain ⟨hp, hl, h⟩ := brb2 h
    simp only [inL, decide_eq_true_eq] at hl hp
    refine ⟨_, ctr_fn ok0 hg_nil Try.func23 (by kernel_rfl) (by kernel_rfl) (by kernel_rfl) fun C => ?_, h⟩
    rw [e23]
    rw [wrap_id (n := l - xs.length) (by omega) (by omega)]
    refine br_dec (fun h => ?_) (fun h => ?_)
    · show _ = _
      rw [szR_neg (by omega)]
    · show _ = _
      rw [szR_pos (by omega)]
  · exact h.elim
def g140 : G1
  | [.agg us, .val (.int .i64 l)], [], k => match elemOf kc us with
    | some a => br (inC a && inL l) (k ⟨.val (.int .i64 (szR l (szC a))), [], []⟩) False
    | none => False
  | _, _, _ => False
noncomputable def E140 : Env := E0.of Try.f140
noncomputable def G140 : Gk := gk []
noncomputable def lp140 (n : Nat) : Code := (loopOf n (codeOf Try.f140)).getD .skip
noncomputable def ct140 (L : Lp) (R : Option Res → Prop) (n : Nat) : Kt := contOf E140 G140 L n (codeOf Try.f140) (endK E140 Try.f140.results.toList R)
noncomputable def rk140 (L : Lp) (R : Option Res → Prop) (n : Nat) (N : St → Prop) : Kt := rk (jof E140 (lp140 n)) N (ct140 L R n)
noncomputable def LOOP140 (L : Lp) (R : Option Res → Prop) (n : Nat) (st : St) : Prop := L (lp140 n) st (ct140 L R n)
theorem hg140 : HG Try.prog G140 := hg_nil
theorem okf140 : Ok Try.prog E140 := ok0.of Try.f140
theorem e140 (L : Lp) (R : Option Res → Prop) (a0 : ByteArray) (a1 : Int) (a2 : ByteArray) (a3 : Int) (a4 : Int) (a5 : Int) (a6 : Int) (a7 : Int) (a8 : Int) (a9 : Int) (a10 : Int) (a11 : Int) (a12 : Int) (a13 : Int) (a14 : Int) (a15 : Int) (a16 : Int) (a17 : Int) (a18 : Int) (a19 : Int) (a20 : Int) (a21 : Int) (a22 : Int) (a23 : Int) (a24 : Int) (a25 : Int) (a26 : Int) (a27 : Int) (a28 : Int) (a29 : Int) (a30 : Bool) (l : Int) : (bodyP E0 G140 L Try.f140 [.agg [.val (.string a0), .val (.int .i64 a1), .val (.string a2), .val (.int .i64 a3), .val (.int .i64 a4), .val (.int .i64 a5), .val (.int .i64 a6), .val (.int .i64 a7), .val (.int .i64 a8), .val (.int .i64 a9), .val (.int .i64 a10), .val (.int .i64 a11), .val (.int .i64 a12), .val (.int .i64 a13), .val (.int .i64 a14), .val (.int .i64 a15), .val (.int .i64 a16), .val (.int .i64 a17), .val (.int .i64 a18), .val (.int .i64 a19), .val (.int .i64 a20), .val (.int .i64 a21), .val (.int .i64 a22), .val (.int .i64 a23), .val (.int .i64 a24), .val (.int .i64 a25), .val (.int .i64 a26), .val (.int .i64 a27), .val (.int .i64 a28), .val (.int .i64 a29), .val (.bool a30)], .val (.int .i64 l)] [] R) = (
    br (decide (IntKind.i64.wrap (l - (↑a0.size : Int)) < 0))
      (R (some { av := AV.val (Value.int IntKind.i64 (-1)), obs := [], outs := [] }))
      (br (decide (IntKind.i64.wrap (IntKind.i64.wrap (l - (↑a0.size : Int)) - (↑a2.size : Int)) < 0))
        (R (some { av := AV.val (Value.int IntKind.i64 (-1)), obs := [], outs := [] }))
        (R
          (some
            {
              av :=
                AV.val
                  (Value.int IntKind.i64 (IntKind.i64.wrap (IntKind.i64.wrap (l - (↑a0.size : Int)) - (↑a2.size : Int)))),
              obs := [], outs := [] })))) := by kernel_rfl
theorem h140 : G1Ok Try.prog 140 g140 := by
  intro args obs k h
  unfold g140 at h
  split at h
  · rename_i k us l
    split at h
    rotate_left
    · exact h.elim
    rename_i a ha
    obtain rfl := elemOf_inv ha
    obtain ⟨a0, a1, a2, a3, a4, a5, a6, a7, a8, a9, a10, a11, a12, a13, a14, a15, a16, a17, a18, a19, a20, a21, a22, a23, a24, a25, a26, a27, a28, a29, a30, ⟨⟩⟩ := a
    obtain ⟨hp, hl, h⟩ := brb2 h
    unfold inC at hp
    simp only [inL, inS, Bool.and_eq_true, decide_eq_true_eq] at hl hp
    obtain ⟨h0, h2⟩ := hp
    refine ⟨_, ctr_fn ok0 hg140 Try.func140 (by kernel_rfl) (by kernel_rfl) (by kernel_rfl) fun C => ?_, h⟩
    show bodyP E0 G140 _ Try.f140 [.agg [.val (.string a0), .val (.int .i64 a1), .val (.string a2), .val (.int .i64 a3), .val (.int .i64 a4), .val (.int .i64 a5), .val (.int .i64 a6), .val (.int .i64 a7), .val (.int .i64 a8), .val (.int .i64 a9), .val (.int .i64 a10), .val (.int .i64 a11), .val (.int .i64 a12), .val (.int .i64 a13), .val (.int .i64 a14), .val (.int .i64 a15), .val (.int .i64 a16), .val (.int .i64 a17), .val (.int .i64 a18), .val (.int .i64 a19), .val (.int .i64 a20), .val (.int .i64 a21), .val (.int .i64 a22), .val (.int .i64 a23), .val (.int .i64 a24), .val (.int .i64 a25), .val (.int .i64 a26), .val (.int .i64 a27), .val (.int .i64 a28), .val (.int .i64 a29), .val (.bool a30)], .val (.int .i64 l)] [] _
    rw [e140]
    have e : szC (a0, a1, a2, a3, a4, a5, a6, a7, a8, a9, a10, a11, a12, a13, a14, a15, a16, a17, a18, a19, a20, a21, a22, a23, a24, a25, a26, a27, a28, a29, a30, ()) = a0.size + a2.size := rfl
    rw [e, wrap_id (n := l - a0.size) (by omega) (by omega)]
    refine br_dec (fun h => ?_) (fun h => ?_)
    · show _ = _
      rw [szR_neg (by omega)]
    rw [wrap_id (n := l - a0.size - a2.size) (by omega) (by omega)]
    refine br_dec (fun h => ?_) (fun h => ?_)
    · show _ = _
      rw [szR_neg (by omega)]
    · show _ = _
      rw [szR_pos (by omega)]
      congr 4
      omega
  · exact h.elim
def szCs (xs : List (Elem kc)) : Nat := xs.length + (xs.map szC).sum
def inCs (xs : List (Elem kc)) : Bool := decide (xs.length ≤ 9223372036854775807) && xs.all inC
def g105 : G1
  | [.rsl cxs xs0, .val (.int .i64 l)], [], k => match castE kc cxs xs0 with
    | some xs => br (inCs xs && inL l) (k ⟨.val (.int .i64 (szR l (szCs xs))), [], []⟩) False
    | _ => False
  | _, _, _ => False
noncomputable def E105 : Env := E0.of Try.f105
noncomputable def G105 : Gk := gk [(140, g140)]
noncomputable def lp105 (n : Nat) : Code := (loopOf n (codeOf Try.f105)).getD .skip
noncomputable def ct105 (L : Lp) (R : Option Res → Prop) (n : Nat) : Kt := contOf E105 G105 L n (codeOf Try.f105) (endK E105 Try.f105.results.toList R)
noncomputable def rk105 (L : Lp) (R : Option Res → Prop) (n : Nat) (N : St → Prop) : Kt := rk (jof E105 (lp105 n)) N (ct105 L R n)
noncomputable def LOOP105 (L : Lp) (R : Option Res → Prop) (n : Nat) (st : St) : Prop := L (lp105 n) st (ct105 L R n)
theorem hg105 : HG Try.prog G105 := (hg_cons h140 hg_nil)
theorem okf105 : Ok Try.prog E105 := ok0.of Try.f105
theorem e105 (L : Lp) (R : Option Res → Prop) (xs : List (Elem kc)) (l : Int) : (bodyP E0 G105 L Try.f105 [.rsl kc xs, .val (.int .i64 l)] [] R) = (
    br (decide (IntKind.i64.wrap (l - (↑xs.length : Int)) < 0))
      (R (some { av := AV.val (Value.int IntKind.i64 (-1)), obs := [], outs := [] }))
      (LOOP105 L R 5
        {
          tm :=
            [AV.rsl
                [CK.str, CK.int IntKind.i64, CK.str, CK.int IntKind.i64, CK.int IntKind.i64, CK.int IntKind.i64,
                  CK.int IntKind.i64, CK.int IntKind.i64, CK.int IntKind.i64, CK.int IntKind.i64, CK.int IntKind.i64,
                  CK.int IntKind.i64, CK.int IntKind.i64, CK.int IntKind.i64, CK.int IntKind.i64, CK.int IntKind.i64,
                  CK.int IntKind.i64, CK.int IntKind.i64, CK.int IntKind.i64, CK.int IntKind.i64, CK.int IntKind.i64,
                  CK.int IntKind.i64, CK.int IntKind.i64, CK.int IntKind.i64, CK.int IntKind.i64, CK.int IntKind.i64,
                  CK.int IntKind.i64, CK.int IntKind.i64, CK.int IntKind.i64, CK.int IntKind.i64, CK.bool]
                xs,
              AV.val (Value.int IntKind.i64 (IntKind.i64.wrap (l - (↑xs.length : Int)))), AV.val (Value.tuple #[]),
              AV.val (Value.tuple #[]), AV.val (Value.int IntKind.i64 0), AV.val (Value.int IntKind.i64 0),
              AV.val (Value.int IntKind.i64 l),
              AV.rsl
                [CK.str, CK.int IntKind.i64, CK.str, CK.int IntKind.i64, CK.int IntKind.i64, CK.int IntKind.i64,
                  CK.int IntKind.i64, CK.int IntKind.i64, CK.int IntKind.i64, CK.int IntKind.i64, CK.int IntKind.i64,
                  CK.int IntKind.i64, CK.int IntKind.i64, CK.int IntKind.i64, CK.int IntKind.i64, CK.int IntKind.i64,
                  CK.int IntKind.i64, CK.int IntKind.i64, CK.int IntKind.i64, CK.int IntKind.i64, CK.int IntKind.i64,
                  CK.int IntKind.i64, CK.int IntKind.i64, CK.int IntKind.i64, CK.int IntKind.i64, CK.int IntKind.i64,
                  CK.int IntKind.i64, CK.int IntKind.i64, CK.int IntKind.i64, CK.int IntKind.i64, CK.bool]
                xs,
              AV.val (Value.int IntKind.i64 (↑xs.length : Int)),
              AV.val (Value.int IntKind.i64 (IntKind.i64.wrap (l - (↑xs.length : Int)))),
              AV.val (Value.int IntKind.i64 (IntKind.i64.wrap (l - (↑xs.length : Int)))),
              AV.val (Value.bool (decide (IntKind.i64.wrap (l - (↑xs.length : Int)) < 0))), AV.junk, AV.junk, AV.junk,
              AV.junk, AV.junk, AV.junk, AV.junk, AV.junk, AV.junk, AV.junk, AV.junk, AV.junk, AV.junk, AV.junk,
              AV.val (Value.tuple #[])],
          ob := [], nx := 1000000, ps := [] })) := by kernel_rfl
def st105 (xs : List (Elem kc)) (l m i : Int) : St :=
  ⟨[AV.rsl [CK.str, CK.int IntKind.i64, CK.str, CK.int IntKind.i64, CK.int IntKind.i64, CK.int IntKind.i64, CK.int IntKind.i64, CK.int IntKind.i64, CK.int IntKind.i64, CK.int IntKind.i64, CK.int IntKind.i64, CK.int IntKind.i64, CK.int IntKind.i64, CK.int IntKind.i64, CK.int IntKind.i64, CK.int IntKind.i64, CK.int IntKind.i64, CK.int IntKind.i64, CK.int IntKind.i64, CK.int IntKind.i64, CK.int IntKind.i64, CK.int IntKind.i64, CK.int IntKind.i64, CK.int IntKind.i64, CK.int IntKind.i64, CK.int IntKind.i64, CK.int IntKind.i64, CK.int IntKind.i64, CK.int IntKind.i64, CK.int IntKind.i64, CK.bool] xs, .val (.int .i64 m), AV.val (Value.tuple #[]), AV.val (Value.tuple #[]), AV.val (Value.int IntKind.i64 0), .val (.int .i64 i), AV.val (Value.int IntKind.i64 l), AV.rsl [CK.str, CK.int IntKind.i64, CK.str, CK.int IntKind.i64, CK.int IntKind.i64, CK.int IntKind.i64, CK.int IntKind.i64, CK.int IntKind.i64, CK.int IntKind.i64, CK.int IntKind.i64, CK.int IntKind.i64, CK.int IntKind.i64, CK.int IntKind.i64, CK.int IntKind.i64, CK.int IntKind.i64, CK.int IntKind.i64, CK.int IntKind.i64, CK.int IntKind.i64, CK.int IntKind.i64, CK.int IntKind.i64, CK.int IntKind.i64, CK.int IntKind.i64, CK.int IntKind.i64, CK.int IntKind.i64, CK.int IntKind.i64, CK.int IntKind.i64, CK.int IntKind.i64, CK.int IntKind.i64, CK.int IntKind.i64, CK.int IntKind.i64, CK.bool] xs, AV.val (Value.int IntKind.i64 (↑xs.length : Int)), AV.val (Value.int IntKind.i64 (IntKind.i64.wrap (l - (↑xs.length : Int)))), AV.val (Value.int IntKind.i64 (IntKind.i64.wrap (l - (↑xs.length : Int)))), AV.val (Value.bool (decide (IntKind.i64.wrap (l - (↑xs.length : Int)) < 0))), AV.junk, AV.junk, AV.junk, AV.junk, AV.junk, AV.junk, AV.junk, AV.junk, AV.junk, AV.junk, AV.junk, AV.junk, AV.junk, AV.junk, AV.val (Value.tuple #[])],
    [], 1000000, []⟩
theorem b105 (L : Lp) (R : Option Res → Prop) (N : St → Prop) (xs : List (Elem kc)) (l m i : Int) : (evP E105 G105 L (lp105 5) (st105 xs l m i) (rk105 L R 5 N)) = (
    br (decide (i < (↑xs.length : Int)))
      (br (decide (0 ≤ i ∧ i < (↑xs.length : Int)))
        (br
          (inC
              (xs.getD i.toNat
                (edflt
                  [CK.str, CK.int IntKind.i64, CK.str, CK.int IntKind.i64, CK.int IntKind.i64, CK.int IntKind.i64,
                    CK.int IntKind.i64, CK.int IntKind.i64, CK.int IntKind.i64, CK.int IntKind.i64, CK.int IntKind.i64,
                    CK.int IntKind.i64, CK.int IntKind.i64, CK.int IntKind.i64, CK.int IntKind.i64, CK.int IntKind.i64,
                    CK.int IntKind.i64, CK.int IntKind.i64, CK.int IntKind.i64, CK.int IntKind.i64, CK.int IntKind.i64,
                    CK.int IntKind.i64, CK.int IntKind.i64, CK.int IntKind.i64, CK.int IntKind.i64, CK.int IntKind.i64,
                    CK.int IntKind.i64, CK.int IntKind.i64, CK.int IntKind.i64, CK.int IntKind.i64, CK.bool])) &&
            inL m)
          (br
            (decide
              (szR m
                  (szC
                    (xs.getD i.toNat
                      (edflt
                        [CK.str, CK.int IntKind.i64, CK.str, CK.int IntKind.i64, CK.int IntKind.i64, CK.int IntKind.i64,
                          CK.int IntKind.i64, CK.int IntKind.i64, CK.int IntKind.i64, CK.int IntKind.i64,
                          CK.int IntKind.i64, CK.int IntKind.i64, CK.int IntKind.i64, CK.int IntKind.i64,
                          CK.int IntKind.i64, CK.int IntKind.i64, CK.int IntKind.i64, CK.int IntKind.i64,
                          CK.int IntKind.i64, CK.int IntKind.i64, CK.int IntKind.i64, CK.int IntKind.i64,
                          CK.int IntKind.i64, CK.int IntKind.i64, CK.int IntKind.i64, CK.int IntKind.i64,
                          CK.int IntKind.i64, CK.int IntKind.i64, CK.int IntKind.i64, CK.int IntKind.i64, CK.bool]))) <
                0))
            (R (some { av := AV.val (Value.int IntKind.i64 (-1)), obs := [], outs := [] }))
            (N
              {
                tm :=
                  [AV.rsl
                      [CK.str, CK.int IntKind.i64, CK.str, CK.int IntKind.i64, CK.int IntKind.i64, CK.int IntKind.i64,
                        CK.int IntKind.i64, CK.int IntKind.i64, CK.int IntKind.i64, CK.int IntKind.i64, CK.int IntKind.i64,
                        CK.int IntKind.i64, CK.int IntKind.i64, CK.int IntKind.i64, CK.int IntKind.i64, CK.int IntKind.i64,
                        CK.int IntKind.i64, CK.int IntKind.i64, CK.int IntKind.i64, CK.int IntKind.i64, CK.int IntKind.i64,
                        CK.int IntKind.i64, CK.int IntKind.i64, CK.int IntKind.i64, CK.int IntKind.i64, CK.int IntKind.i64,
                        CK.int IntKind.i64, CK.int IntKind.i64, CK.int IntKind.i64, CK.int IntKind.i64, CK.bool]
                      xs,
                    AV.val
                      (Value.int IntKind.i64
                        (szR m
                          (szC
                            (xs.getD i.toNat
                              (edflt
                                [CK.str, CK.int IntKind.i64, CK.str, CK.int IntKind.i64, CK.int IntKind.i64,
                                  CK.int IntKind.i64, CK.int IntKind.i64, CK.int IntKind.i64, CK.int IntKind.i64,
                                  CK.int IntKind.i64, CK.int IntKind.i64, CK.int IntKind.i64, CK.int IntKind.i64,
                                  CK.int IntKind.i64, CK.int IntKind.i64, CK.int IntKind.i64, CK.int IntKind.i64,
                                  CK.int IntKind.i64, CK.int IntKind.i64, CK.int IntKind.i64, CK.int IntKind.i64,
                                  CK.int IntKind.i64, CK.int IntKind.i64, CK.int IntKind.i64, CK.int IntKind.i64,
                                  CK.int IntKind.i64, CK.int IntKind.i64, CK.int IntKind.i64, CK.int IntKind.i64,
                                  CK.int IntKind.i64, CK.bool]))))),
                    AV.val (Value.tuple #[]), AV.val (Value.tuple #[]), AV.val (Value.int IntKind.i64 0),
                    AV.val (Value.int IntKind.i64 (IntKind.i64.wrap (i + 1))), AV.val (Value.int IntKind.i64 l),
                    AV.rsl
                      [CK.str, CK.int IntKind.i64, CK.str, CK.int IntKind.i64, CK.int IntKind.i64, CK.int IntKind.i64,
                        CK.int IntKind.i64, CK.int IntKind.i64, CK.int IntKind.i64, CK.int IntKind.i64, CK.int IntKind.i64,
                        CK.int IntKind.i64, CK.int IntKind.i64, CK.int IntKind.i64, CK.int IntKind.i64, CK.int IntKind.i64,
                        CK.int IntKind.i64, CK.int IntKind.i64, CK.int IntKind.i64, CK.int IntKind.i64, CK.int IntKind.i64,
                        CK.int IntKind.i64, CK.int IntKind.i64, CK.int IntKind.i64, CK.int IntKind.i64, CK.int IntKind.i64,
                        CK.int IntKind.i64, CK.int IntKind.i64, CK.int IntKind.i64, CK.int IntKind.i64, CK.bool]
                      xs,
                    AV.val (Value.int IntKind.i64 (↑xs.length : Int)),
                    AV.val (Value.int IntKind.i64 (IntKind.i64.wrap (l - (↑xs.length : Int)))),
                    AV.val (Value.int IntKind.i64 (IntKind.i64.wrap (l - (↑xs.length : Int)))),
                    AV.val (Value.bool (decide (IntKind.i64.wrap (l - (↑xs.length : Int)) < 0))), AV.junk, AV.junk, AV.junk,
                    AV.junk, AV.junk, AV.junk, AV.junk, AV.junk, AV.junk, AV.junk, AV.junk, AV.junk, AV.junk, AV.junk,
                    AV.val (Value.tuple #[])],
                ob := [], nx := 1000000, ps := [] }))
          False)
        False)
      (R (some { av := AV.val (Value.int IntKind.i64 m), obs := [], outs := [] }))) := by kernel_rfl
theorem h105 : G1Ok Try.prog 105 g105 := by
  intro args obs k h
  unfold g105 at h
  split at h
  · rename_i k cxs xs0 l
    split at h
    rotate_left
    · exact h.elim
    rename_i xs hxs
    cases castE_inv hxs
    obtain ⟨hp, h⟩ := br_and h
    rw [Bool.and_eq_true] at hp
    obtain ⟨hB, hl⟩ := hp
    unfold inCs at hB
    rw [Bool.and_eq_true] at hB
    obtain ⟨hlen, hB⟩ := hB
    simp only [inL, decide_eq_true_eq] at hl hlen
    refine ⟨_, ctr_fn ok0 hg105 Try.func105 (by kernel_rfl) (by kernel_rfl) (by kernel_rfl) fun C => ?_, h⟩
    rw [e105]
    have e : szCs xs = xs.length + (xs.map szC).sum := rfl
    have hw0 := wrap_id (n := l - xs.length) (by omega) (by omega)
    refine br_dec (fun h => ?_) (fun h => ?_) <;> rw [hw0] at h
    · show _ = _
      rw [e, szR_neg (by omega)]
    · exact loopSz okf105 hg105 (fun i m => st105 xs l m i) xs (edflt kc) szC inC l (by omega) hl.2 hB (fun N i m hi h0 h1 hw hpr neg pos done => by
        show evP E105 G105 _ (lp105 5) (st105 xs l m i) (rk105 _ _ 5 _)
        rw [b105, hw, Int.toNat_natCast]
        refine br_dec (fun h => br_yes ⟨by omega, h⟩ (br_t ?_ (br_dec (fun h2 => ?_) (fun h2 => ?_)))) (fun h => ?_)
        · rw [Bool.and_eq_true]
          exact ⟨hpr (by omega), by simp only [inL, decide_eq_true_eq]; omega⟩
        · show _ = _
          rw [e, neg (by omega) (szR_lt0 h2)]
        · rw [szR_pos (szR_ge0 h2)]
          exact pos (by omega) (szR_ge0 h2)
        · show _ = _
          rw [e, done (by omega)]) _ hw0 (by omega)
  · exact h.elim
def g150 : G1
  | [.agg us], [], k => match elemOf [.int .i64, .int .i64, .int .i64, .int .i64, .int .i64, .int .i64, .int .i64, .int .i64, .int .i64, .int .i64, .int .i64, .int .i64, .int .i64, .int .i64, .int .i64, .int .i64, .int .i64, .int .i64, .int .i64, .int .i64, .int .i64, .int .i64, .int .i64, .int .i64] us with
    | some a => k ⟨.agg ((vals [.int .i64, .int .i64, .int .i64, .int .i64, .int .i64, .int .i64, .int .i64, .int .i64, .int .i64, .int .i64, .int .i64, .int .i64, .int .i64, .int .i64, .int .i64, .int .i64, .int .i64, .int .i64, .int .i64, .int .i64, .int .i64, .int .i64, .int .i64, .int .i64] a).map .val), [], []⟩
    | none => False
  | _, _, _ => False
noncomputable def E150 : Env := E0.of Try.f150
noncomputable def G150 : Gk := gk [(19, g19)]
noncomputable def lp150 (n : Nat) : Code := (loopOf n (codeOf Try.f150)).getD .skip
noncomputable def ct150 (L : Lp) (R : Option Res → Prop) (n : Nat) : Kt := contOf E150 G150 L n (codeOf Try.f150) (endK E150 Try.f150.results.toList R)
noncomputable def rk150 (L : Lp) (R : Option Res → Prop) (n : Nat) (N : St → Prop) : Kt := rk (jof E150 (lp150 n)) N (ct150 L R n)
noncomputable def LOOP150 (L : Lp) (R : Option Res → Prop) (n : Nat) (st : St) : Prop := L (lp150 n) st (ct150 L R n)
theorem hg150 : HG Try.prog G150 := (hg_cons h19 hg_nil)
theorem okf150 : Ok Try.prog E150 := ok0.of Try.f150
theorem e150 (L : Lp) (R : Option Res → Prop) (a0 : Int) (a1 : Int) (a2 : Int) (a3 : Int) (a4 : Int) (a5 : Int) (a6 : Int) (a7 : Int) (a8 : Int) (a9 : Int) (a10 : Int) (a11 : Int) (a12 : Int) (a13 : Int) (a14 : Int) (a15 : Int) (a16 : Int) (a17 : Int) (a18 : Int) (a19 : Int) (a20 : Int) (a21 : Int) (a22 : Int) (a23 : Int) : (bodyP E0 G150 L Try.f150 [.agg [.val (.int .i64 a0), .val (.int .i64 a1), .val (.int .i64 a2), .val (.int .i64 a3), .val (.int .i64 a4), .val (.int .i64 a5), .val (.int .i64 a6), .val (.int .i64 a7), .val (.int .i64 a8), .val (.int .i64 a9), .val (.int .i64 a10), .val (.int .i64 a11), .val (.int .i64 a12), .val (.int .i64 a13), .val (.int .i64 a14), .val (.int .i64 a15), .val (.int .i64 a16), .val (.int .i64 a17), .val (.int .i64 a18), .val (.int .i64 a19), .val (.int .i64 a20), .val (.int .i64 a21), .val (.int .i64 a22), .val (.int .i64 a23)]] [] R) = (
    LOOP150 L R 3
      {
        tm :=
          [AV.agg
              [AV.val (Value.int IntKind.i64 a0), AV.val (Value.int IntKind.i64 a1), AV.val (Value.int IntKind.i64 a2),
                AV.val (Value.int IntKind.i64 a3), AV.val (Value.int IntKind.i64 a4), AV.val (Value.int IntKind.i64 a5),
                AV.val (Value.int IntKind.i64 a6), AV.val (Value.int IntKind.i64 a7), AV.val (Value.int IntKind.i64 a8),
                AV.val (Value.int IntKind.i64 a9), AV.val (Value.int IntKind.i64 a10), AV.val (Value.int IntKind.i64 a11),
                AV.val (Value.int IntKind.i64 a12), AV.val (Value.int IntKind.i64 a13), AV.val (Value.int IntKind.i64 a14),
                AV.val (Value.int IntKind.i64 a15), AV.val (Value.int IntKind.i64 a16), AV.val (Value.int IntKind.i64 a17),
                AV.val (Value.int IntKind.i64 a18), AV.val (Value.int IntKind.i64 a19), AV.val (Value.int IntKind.i64 a20),
                AV.val (Value.int IntKind.i64 a21), AV.val (Value.int IntKind.i64 a22), AV.val (Value.int IntKind.i64 a23)],
            AV.ptr 0 0, AV.ptr 1 0, AV.ptr 2 0, AV.val (Value.int IntKind.i64 0), AV.junk, AV.junk, AV.junk, AV.junk,
            AV.junk, AV.junk, AV.junk, AV.junk, AV.junk, AV.junk, AV.val (Value.tuple #[])],
        ob :=
          [(0,
              AO.box
                [AV.val (Value.int IntKind.i64 a0), AV.val (Value.int IntKind.i64 a1), AV.val (Value.int IntKind.i64 a2),
                  AV.val (Value.int IntKind.i64 a3), AV.val (Value.int IntKind.i64 a4), AV.val (Value.int IntKind.i64 a5),
                  AV.val (Value.int IntKind.i64 a6), AV.val (Value.int IntKind.i64 a7), AV.val (Value.int IntKind.i64 a8),
                  AV.val (Value.int IntKind.i64 a9), AV.val (Value.int IntKind.i64 a10), AV.val (Value.int IntKind.i64 a11),
                  AV.val (Value.int IntKind.i64 a12), AV.val (Value.int IntKind.i64 a13),
                  AV.val (Value.int IntKind.i64 a14), AV.val (Value.int IntKind.i64 a15),
                  AV.val (Value.int IntKind.i64 a16), AV.val (Value.int IntKind.i64 a17),
                  AV.val (Value.int IntKind.i64 a18), AV.val (Value.int IntKind.i64 a19),
                  AV.val (Value.int IntKind.i64 a20), AV.val (Value.int IntKind.i64 a21),
                  AV.val (Value.int IntKind.i64 a22), AV.val (Value.int IntKind.i64 a23)]),
            (1,
              AO.box
                [AV.val (Value.int IntKind.i64 0), AV.val (Value.int IntKind.i64 0), AV.val (Value.int IntKind.i64 0),
                  AV.val (Value.int IntKind.i64 0), AV.val (Value.int IntKind.i64 0), AV.val (Value.int IntKind.i64 0),
                  AV.val (Value.int IntKind.i64 0), AV.val (Value.int IntKind.i64 0), AV.val (Value.int IntKind.i64 0),
                  AV.val (Value.int IntKind.i64 0), AV.val (Value.int IntKind.i64 0), AV.val (Value.int IntKind.i64 0),
                  AV.val (Value.int IntKind.i64 0), AV.val (Value.int IntKind.i64 0), AV.val (Value.int IntKind.i64 0),
                  AV.val (Value.int IntKind.i64 0), AV.val (Value.int IntKind.i64 0), AV.val (Value.int IntKind.i64 0),
                  AV.val (Value.int IntKind.i64 0), AV.val (Value.int IntKind.i64 0), AV.val (Value.int IntKind.i64 0),
                  AV.val (Value.int IntKind.i64 0), AV.val (Value.int IntKind.i64 0), AV.val (Value.int IntKind.i64 0)]),
            (2,
              AO.box
                [AV.val (Value.int IntKind.i64 0), AV.val (Value.int IntKind.i64 0), AV.val (Value.int IntKind.i64 0),
                  AV.val (Value.int IntKind.i64 0), AV.val (Value.int IntKind.i64 0), AV.val (Value.int IntKind.i64 0),
                  AV.val (Value.int IntKind.i64 0), AV.val (Value.int IntKind.i64 0), AV.val (Value.int IntKind.i64 0),
                  AV.val (Value.int IntKind.i64 0), AV.val (Value.int IntKind.i64 0), AV.val (Value.int IntKind.i64 0),
                  AV.val (Value.int IntKind.i64 0), AV.val (Value.int IntKind.i64 0), AV.val (Value.int IntKind.i64 0),
                  AV.val (Value.int IntKind.i64 0), AV.val (Value.int IntKind.i64 0), AV.val (Value.int IntKind.i64 0),
                  AV.val (Value.int IntKind.i64 0), AV.val (Value.int IntKind.i64 0), AV.val (Value.int IntKind.i64 0),
                  AV.val (Value.int IntKind.i64 0), AV.val (Value.int IntKind.i64 0), AV.val (Value.int IntKind.i64 0)])],
        nx := 1000000, ps := [] }) := by kernel_rfl
def st150 (a0 : Int) (a1 : Int) (a2 : Int) (a3 : Int) (a4 : Int) (a5 : Int) (a6 : Int) (a7 : Int) (a8 : Int) (a9 : Int) (a10 : Int) (a11 : Int) (a12 : Int) (a13 : Int) (a14 : Int) (a15 : Int) (a16 : Int) (a17 : Int) (a18 : Int) (a19 : Int) (a20 : Int) (a21 : Int) (a22 : Int) (a23 : Int) (i : Int) (b0 : Int) (b1 : Int) (b2 : Int) (b3 : Int) (b4 : Int) (b5 : Int) (b6 : Int) (b7 : Int) (b8 : Int) (b9 : Int) (b10 : Int) (b11 : Int) (b12 : Int) (b13 : Int) (b14 : Int) (b15 : Int) (b16 : Int) (b17 : Int) (b18 : Int) (b19 : Int) (b20 : Int) (b21 : Int) (b22 : Int) (b23 : Int) : St :=
  ⟨[AV.agg [AV.val (Value.int IntKind.i64 a0), AV.val (Value.int IntKind.i64 a1), AV.val (Value.int IntKind.i64 a2), AV.val (Value.int IntKind.i64 a3), AV.val (Value.int IntKind.i64 a4), AV.val (Value.int IntKind.i64 a5), AV.val (Value.int IntKind.i64 a6), AV.val (Value.int IntKind.i64 a7), AV.val (Value.int IntKind.i64 a8), AV.val (Value.int IntKind.i64 a9), AV.val (Value.int IntKind.i64 a10), AV.val (Value.int IntKind.i64 a11), AV.val (Value.int IntKind.i64 a12), AV.val (Value.int IntKind.i64 a13), AV.val (Value.int IntKind.i64 a14), AV.val (Value.int IntKind.i64 a15), AV.val (Value.int IntKind.i64 a16), AV.val (Value.int IntKind.i64 a17), AV.val (Value.int IntKind.i64 a18), AV.val (Value.int IntKind.i64 a19), AV.val (Value.int IntKind.i64 a20), AV.val (Value.int IntKind.i64 a21), AV.val (Value.int IntKind.i64 a22), AV.val (Value.int IntKind.i64 a23)], AV.ptr 0 0, AV.ptr 1 0, AV.ptr 2 0, .val (.int .i64 i), AV.junk, AV.junk, AV.junk, AV.junk, AV.junk, AV.junk, AV.junk, AV.junk, AV.junk, AV.junk, AV.val (Value.tuple #[])],
    [(0, AO.box [AV.val (Value.int IntKind.i64 a0), AV.val (Value.int IntKind.i64 a1), AV.val (Value.int IntKind.i64 a2), AV.val (Value.int IntKind.i64 a3), AV.val (Value.int IntKind.i64 a4), AV.val (Value.int IntKind.i64 a5), AV.val (Value.int IntKind.i64 a6), AV.val (Value.int IntKind.i64 a7), AV.val (Value.int IntKind.i64 a8), AV.val (Value.int IntKind.i64 a9), AV.val (Value.int IntKind.i64 a10), AV.val (Value.int IntKind.i64 a11), AV.val (Value.int IntKind.i64 a12), AV.val (Value.int IntKind.i64 a13), AV.val (Value.int IntKind.i64 a14), AV.val (Value.int IntKind.i64 a15), AV.val (Value.int IntKind.i64 a16), AV.val (Value.int IntKind.i64 a17), AV.val (Value.int IntKind.i64 a18), AV.val (Value.int IntKind.i64 a19), AV.val (Value.int IntKind.i64 a20), AV.val (Value.int IntKind.i64 a21), AV.val (Value.int IntKind.i64 a22), AV.val (Value.int IntKind.i64 a23)]), (1, AO.box [AV.val (Value.int IntKind.i64 0), AV.val (Value.int IntKind.i64 0), AV.val (Value.int IntKind.i64 0), AV.val (Value.int IntKind.i64 0), AV.val (Value.int IntKind.i64 0), AV.val (Value.int IntKind.i64 0), AV.val (Value.int IntKind.i64 0), AV.val (Value.int IntKind.i64 0), AV.val (Value.int IntKind.i64 0), AV.val (Value.int IntKind.i64 0), AV.val (Value.int IntKind.i64 0), AV.val (Value.int IntKind.i64 0), AV.val (Value.int IntKind.i64 0), AV.val (Value.int IntKind.i64 0), AV.val (Value.int IntKind.i64 0), AV.val (Value.int IntKind.i64 0), AV.val (Value.int IntKind.i64 0), AV.val (Value.int IntKind.i64 0), AV.val (Value.int IntKind.i64 0), AV.val (Value.int IntKind.i64 0), AV.val (Value.int IntKind.i64 0), AV.val (Value.int IntKind.i64 0), AV.val (Value.int IntKind.i64 0), AV.val (Value.int IntKind.i64 0)]), (2, .box [.val (.int .i64 b0), .val (.int .i64 b1), .val (.int .i64 b2), .val (.int .i64 b3), .val (.int .i64 b4), .val (.int .i64 b5), .val (.int .i64 b6), .val (.int .i64 b7), .val (.int .i64 b8), .val (.int .i64 b9), .val (.int .i64 b10), .val (.int .i64 b11), .val (.int .i64 b12), .val (.int .i64 b13), .val (.int .i64 b14), .val (.int .i64 b15), .val (.int .i64 b16), .val (.int .i64 b17), .val (.int .i64 b18), .val (.int .i64 b19), .val (.int .i64 b20), .val (.int .i64 b21), .val (.int .i64 b22), .val (.int .i64 b23)])], 1000000, []⟩
theorem b150_0 (L : Lp) (R : Option Res → Prop) (N : St → Prop) (a0 : Int) (a1 : Int) (a2 : Int) (a3 : Int) (a4 : Int) (a5 : Int) (a6 : Int) (a7 : Int) (a8 : Int) (a9 : Int) (a10 : Int) (a11 : Int) (a12 : Int) (a13 : Int) (a14 : Int) (a15 : Int) (a16 : Int) (a17 : Int) (a18 : Int) (a19 : Int) (a20 : Int) (a21 : Int) (a22 : Int) (a23 : Int) : (evP E150 G150 L (lp150 3) (st150 a0 a1 a2 a3 a4 a5 a6 a7 a8 a9 a10 a11 a12 a13 a14 a15 a16 a17 a18 a19 a20 a21 a22 a23 0 0 0 0 0 0 0 0 0 0 0 0 0 0 0 0 0 0 0 0 0 0 0 0 0) (rk150 L R 3 N)) = (
    N
      {
        tm :=
          [AV.agg
              [AV.val (Value.int IntKind.i64 a0), AV.val (Value.int IntKind.i64 a1), AV.val (Value.int IntKind.i64 a2),
                AV.val (Value.int IntKind.i64 a3), AV.val (Value.int IntKind.i64 a4), AV.val (Value.int IntKind.i64 a5),
                AV.val (Value.int IntKind.i64 a6), AV.val (Value.int IntKind.i64 a7), AV.val (Value.int IntKind.i64 a8),
                AV.val (Value.int IntKind.i64 a9), AV.val (Value.int IntKind.i64 a10), AV.val (Value.int IntKind.i64 a11),
                AV.val (Value.int IntKind.i64 a12), AV.val (Value.int IntKind.i64 a13), AV.val (Value.int IntKind.i64 a14),
                AV.val (Value.int IntKind.i64 a15), AV.val (Value.int IntKind.i64 a16), AV.val (Value.int IntKind.i64 a17),
                AV.val (Value.int IntKind.i64 a18), AV.val (Value.int IntKind.i64 a19), AV.val (Value.int IntKind.i64 a20),
                AV.val (Value.int IntKind.i64 a21), AV.val (Value.int IntKind.i64 a22), AV.val (Value.int IntKind.i64 a23)],
            AV.ptr 0 0, AV.ptr 1 0, AV.ptr 2 0, AV.val (Value.int IntKind.i64 1), AV.junk, AV.junk, AV.junk, AV.junk,
            AV.junk, AV.junk, AV.junk, AV.junk, AV.junk, AV.junk, AV.val (Value.tuple #[])],
        ob :=
          [(0,
              AO.box
                [AV.val (Value.int IntKind.i64 a0), AV.val (Value.int IntKind.i64 a1), AV.val (Value.int IntKind.i64 a2),
                  AV.val (Value.int IntKind.i64 a3), AV.val (Value.int IntKind.i64 a4), AV.val (Value.int IntKind.i64 a5),
                  AV.val (Value.int IntKind.i64 a6), AV.val (Value.int IntKind.i64 a7), AV.val (Value.int IntKind.i64 a8),
                  AV.val (Value.int IntKind.i64 a9), AV.val (Value.int IntKind.i64 a10), AV.val (Value.int IntKind.i64 a11),
                  AV.val (Value.int IntKind.i64 a12), AV.val (Value.int IntKind.i64 a13),
                  AV.val (Value.int IntKind.i64 a14), AV.val (Value.int IntKind.i64 a15),
                  AV.val (Value.int IntKind.i64 a16), AV.val (Value.int IntKind.i64 a17),
                  AV.val (Value.int IntKind.i64 a18), AV.val (Value.int IntKind.i64 a19),
                  AV.val (Value.int IntKind.i64 a20), AV.val (Value.int IntKind.i64 a21),
                  AV.val (Value.int IntKind.i64 a22), AV.val (Value.int IntKind.i64 a23)]),
            (1,
              AO.box
                [AV.val (Value.int IntKind.i64 0), AV.val (Value.int IntKind.i64 0), AV.val (Value.int IntKind.i64 0),
                  AV.val (Value.int IntKind.i64 0), AV.val (Value.int IntKind.i64 0), AV.val (Value.int IntKind.i64 0),
                  AV.val (Value.int IntKind.i64 0), AV.val (Value.int IntKind.i64 0), AV.val (Value.int IntKind.i64 0),
                  AV.val (Value.int IntKind.i64 0), AV.val (Value.int IntKind.i64 0), AV.val (Value.int IntKind.i64 0),
                  AV.val (Value.int IntKind.i64 0), AV.val (Value.int IntKind.i64 0), AV.val (Value.int IntKind.i64 0),
                  AV.val (Value.int IntKind.i64 0), AV.val (Value.int IntKind.i64 0), AV.val (Value.int IntKind.i64 0),
                  AV.val (Value.int IntKind.i64 0), AV.val (Value.int IntKind.i64 0), AV.val (Value.int IntKind.i64 0),
                  AV.val (Value.int IntKind.i64 0), AV.val (Value.int IntKind.i64 0), AV.val (Value.int IntKind.i64 0)]),
            (2,
              AO.box
                [AV.val (Value.int IntKind.i64 a0), AV.val (Value.int IntKind.i64 a1), AV.val (Value.int IntKind.i64 a2),
                  AV.val (Value.int IntKind.i64 0), AV.val (Value.int IntKind.i64 0), AV.val (Value.int IntKind.i64 0),
                  AV.val (Value.int IntKind.i64 0), AV.val (Value.int IntKind.i64 0), AV.val (Value.int IntKind.i64 0),
                  AV.val (Value.int IntKind.i64 0), AV.val (Value.int IntKind.i64 0), AV.val (Value.int IntKind.i64 0),
                  AV.val (Value.int IntKind.i64 0), AV.val (Value.int IntKind.i64 0), AV.val (Value.int IntKind.i64 0),
                  AV.val (Value.int IntKind.i64 0), AV.val (Value.int IntKind.i64 0), AV.val (Value.int IntKind.i64 0),
                  AV.val (Value.int IntKind.i64 0), AV.val (Value.int IntKind.i64 0), AV.val (Value.int IntKind.i64 0),
                  AV.val (Value.int IntKind.i64 0), AV.val (Value.int IntKind.i64 0), AV.val (Value.int IntKind.i64 0)])],
        nx := 1000000, ps := [] }) := by kernel_rfl
theorem b150_1 (L : Lp) (R : Option Res → Prop) (N : St → Prop) (a0 : Int) (a1 : Int) (a2 : Int) (a3 : Int) (a4 : Int) (a5 : Int) (a6 : Int) (a7 : Int) (a8 : Int) (a9 : Int) (a10 : Int) (a11 : Int) (a12 : Int) (a13 : Int) (a14 : Int) (a15 : Int) (a16 : Int) (a17 : Int) (a18 : Int) (a19 : Int) (a20 : Int) (a21 : Int) (a22 : Int) (a23 : Int) : (evP E150 G150 L (lp150 3) (st150 a0 a1 a2 a3 a4 a5 a6 a7 a8 a9 a10 a11 a12 a13 a14 a15 a16 a17 a18 a19 a20 a21 a22 a23 1 a0 a1 a2 0 0 0 0 0 0 0 0 0 0 0 0 0 0 0 0 0 0 0 0 0) (rk150 L R 3 N)) = (
    N
      {
        tm :=
          [AV.agg
              [AV.val (Value.int IntKind.i64 a0), AV.val (Value.int IntKind.i64 a1), AV.val (Value.int IntKind.i64 a2),
                AV.val (Value.int IntKind.i64 a3), AV.val (Value.int IntKind.i64 a4), AV.val (Value.int IntKind.i64 a5),
                AV.val (Value.int IntKind.i64 a6), AV.val (Value.int IntKind.i64 a7), AV.val (Value.int IntKind.i64 a8),
                AV.val (Value.int IntKind.i64 a9), AV.val (Value.int IntKind.i64 a10), AV.val (Value.int IntKind.i64 a11),
                AV.val (Value.int IntKind.i64 a12), AV.val (Value.int IntKind.i64 a13), AV.val (Value.int IntKind.i64 a14),
                AV.val (Value.int IntKind.i64 a15), AV.val (Value.int IntKind.i64 a16), AV.val (Value.int IntKind.i64 a17),
                AV.val (Value.int IntKind.i64 a18), AV.val (Value.int IntKind.i64 a19), AV.val (Value.int IntKind.i64 a20),
                AV.val (Value.int IntKind.i64 a21), AV.val (Value.int IntKind.i64 a22), AV.val (Value.int IntKind.i64 a23)],
            AV.ptr 0 0, AV.ptr 1 0, AV.ptr 2 0, AV.val (Value.int IntKind.i64 2), AV.junk, AV.junk, AV.junk, AV.junk,
            AV.junk, AV.junk, AV.junk, AV.junk, AV.junk, AV.junk, AV.val (Value.tuple #[])],
        ob :=
          [(0,
              AO.box
                [AV.val (Value.int IntKind.i64 a0), AV.val (Value.int IntKind.i64 a1), AV.val (Value.int IntKind.i64 a2),
                  AV.val (Value.int IntKind.i64 a3), AV.val (Value.int IntKind.i64 a4), AV.val (Value.int IntKind.i64 a5),
                  AV.val (Value.int IntKind.i64 a6), AV.val (Value.int IntKind.i64 a7), AV.val (Value.int IntKind.i64 a8),
                  AV.val (Value.int IntKind.i64 a9), AV.val (Value.int IntKind.i64 a10), AV.val (Value.int IntKind.i64 a11),
                  AV.val (Value.int IntKind.i64 a12), AV.val (Value.int IntKind.i64 a13),
                  AV.val (Value.int IntKind.i64 a14), AV.val (Value.int IntKind.i64 a15),
                  AV.val (Value.int IntKind.i64 a16), AV.val (Value.int IntKind.i64 a17),
                  AV.val (Value.int IntKind.i64 a18), AV.val (Value.int IntKind.i64 a19),
                  AV.val (Value.int IntKind.i64 a20), AV.val (Value.int IntKind.i64 a21),
                  AV.val (Value.int IntKind.i64 a22), AV.val (Value.int IntKind.i64 a23)]),
            (1,
              AO.box
                [AV.val (Value.int IntKind.i64 0), AV.val (Value.int IntKind.i64 0), AV.val (Value.int IntKind.i64 0),
                  AV.val (Value.int IntKind.i64 0), AV.val (Value.int IntKind.i64 0), AV.val (Value.int IntKind.i64 0),
                  AV.val (Value.int IntKind.i64 0), AV.val (Value.int IntKind.i64 0), AV.val (Value.int IntKind.i64 0),
                  AV.val (Value.int IntKind.i64 0), AV.val (Value.int IntKind.i64 0), AV.val (Value.int IntKind.i64 0),
                  AV.val (Value.int IntKind.i64 0), AV.val (Value.int IntKind.i64 0), AV.val (Value.int IntKind.i64 0),
                  AV.val (Value.int IntKind.i64 0), AV.val (Value.int IntKind.i64 0), AV.val (Value.int IntKind.i64 0),
                  AV.val (Value.int IntKind.i64 0), AV.val (Value.int IntKind.i64 0), AV.val (Value.int IntKind.i64 0),
                  AV.val (Value.int IntKind.i64 0), AV.val (Value.int IntKind.i64 0), AV.val (Value.int IntKind.i64 0)]),
            (2,
              AO.box
                [AV.val (Value.int IntKind.i64 a0), AV.val (Value.int IntKind.i64 a1), AV.val (Value.int IntKind.i64 a2),
                  AV.val (Value.int IntKind.i64 a3), AV.val (Value.int IntKind.i64 a4), AV.val (Value.int IntKind.i64 a5),
                  AV.val (Value.int IntKind.i64 0), AV.val (Value.int IntKind.i64 0), AV.val (Value.int IntKind.i64 0),
                  AV.val (Value.int IntKind.i64 0), AV.val (Value.int IntKind.i64 0), AV.val (Value.int IntKind.i64 0),
                  AV.val (Value.int IntKind.i64 0), AV.val (Value.int IntKind.i64 0), AV.val (Value.int IntKind.i64 0),
                  AV.val (Value.int IntKind.i64 0), AV.val (Value.int IntKind.i64 0), AV.val (Value.int IntKind.i64 0),
                  AV.val (Value.int IntKind.i64 0), AV.val (Value.int IntKind.i64 0), AV.val (Value.int IntKind.i64 0),
                  AV.val (Value.int IntKind.i64 0), AV.val (Value.int IntKind.i64 0), AV.val (Value.int IntKind.i64 0)])],
        nx := 1000000, ps := [] }) := by kernel_rfl
theorem b150_2 (L : Lp) (R : Option Res → Prop) (N : St → Prop) (a0 : Int) (a1 : Int) (a2 : Int) (a3 : Int) (a4 : Int) (a5 : Int) (a6 : Int) (a7 : Int) (a8 : Int) (a9 : Int) (a10 : Int) (a11 : Int) (a12 : Int) (a13 : Int) (a14 : Int) (a15 : Int) (a16 : Int) (a17 : Int) (a18 : Int) (a19 : Int) (a20 : Int) (a21 : Int) (a22 : Int) (a23 : Int) : (evP E150 G150 L (lp150 3) (st150 a0 a1 a2 a3 a4 a5 a6 a7 a8 a9 a10 a11 a12 a13 a14 a15 a16 a17 a18 a19 a20 a21 a22 a23 2 a0 a1 a2 a3 a4 a5 0 0 0 0 0 0 0 0 0 0 0 0 0 0 0 0 0 0) (rk150 L R 3 N)) = (
    N
      {
        tm :=
          [AV.agg
              [AV.val (Value.int IntKind.i64 a0), AV.val (Value.int IntKind.i64 a1), AV.val (Value.int IntKind.i64 a2),
                AV.val (Value.int IntKind.i64 a3), AV.val (Value.int IntKind.i64 a4), AV.val (Value.int IntKind.i64 a5),
                AV.val (Value.int IntKind.i64 a6), AV.val (Value.int IntKind.i64 a7), AV.val (Value.int IntKind.i64 a8),
                AV.val (Value.int IntKind.i64 a9), AV.val (Value.int IntKind.i64 a10), AV.val (Value.int IntKind.i64 a11),
                AV.val (Value.int IntKind.i64 a12), AV.val (Value.int IntKind.i64 a13), AV.val (Value.int IntKind.i64 a14),
                AV.val (Value.int IntKind.i64 a15), AV.val (Value.int IntKind.i64 a16), AV.val (Value.int IntKind.i64 a17),
                AV.val (Value.int IntKind.i64 a18), AV.val (Value.int IntKind.i64 a19), AV.val (Value.int IntKind.i64 a20),
                AV.val (Value.int IntKind.i64 a21), AV.val (Value.int IntKind.i64 a22), AV.val (Value.int IntKind.i64 a23)],
            AV.ptr 0 0, AV.ptr 1 0, AV.ptr 2 0, AV.val (Value.int IntKind.i64 3), AV.junk, AV.junk, AV.junk, AV.junk,
            AV.junk, AV.junk, AV.junk, AV.junk, AV.junk, AV.junk, AV.val (Value.tuple #[])],
        ob :=
          [(0,
              AO.box
                [AV.val (Value.int IntKind.i64 a0), AV.val (Value.int IntKind.i64 a1), AV.val (Value.int IntKind.i64 a2),
                  AV.val (Value.int IntKind.i64 a3), AV.val (Value.int IntKind.i64 a4), AV.val (Value.int IntKind.i64 a5),
                  AV.val (Value.int IntKind.i64 a6), AV.val (Value.int IntKind.i64 a7), AV.val (Value.int IntKind.i64 a8),
                  AV.val (Value.int IntKind.i64 a9), AV.val (Value.int IntKind.i64 a10), AV.val (Value.int IntKind.i64 a11),
                  AV.val (Value.int IntKind.i64 a12), AV.val (Value.int IntKind.i64 a13),
                  AV.val (Value.int IntKind.i64 a14), AV.val (Value.int IntKind.i64 a15),
                  AV.val (Value.int IntKind.i64 a16), AV.val (Value.int IntKind.i64 a17),
                  AV.val (Value.int IntKind.i64 a18), AV.val (Value.int IntKind.i64 a19),
                  AV.val (Value.int IntKind.i64 a20), AV.val (Value.int IntKind.i64 a21),
                  AV.val (Value.int IntKind.i64 a22), AV.val (Value.int IntKind.i64 a23)]),
            (1,
              AO.box
                [AV.val (Value.int IntKind.i64 0), AV.val (Value.int IntKind.i64 0), AV.val (Value.int IntKind.i64 0),
                  AV.val (Value.int IntKind.i64 0), AV.val (Value.int IntKind.i64 0), AV.val (Value.int IntKind.i64 0),
                  AV.val (Value.int IntKind.i64 0), AV.val (Value.int IntKind.i64 0), AV.val (Value.int IntKind.i64 0),
                  AV.val (Value.int IntKind.i64 0), AV.val (Value.int IntKind.i64 0), AV.val (Value.int IntKind.i64 0),
                  AV.val (Value.int IntKind.i64 0), AV.val (Value.int IntKind.i64 0), AV.val (Value.int IntKind.i64 0),
                  AV.val (Value.int IntKind.i64 0), AV.val (Value.int IntKind.i64 0), AV.val (Value.int IntKind.i64 0),
                  AV.val (Value.int IntKind.i64 0), AV.val (Value.int IntKind.i64 0), AV.val (Value.int IntKind.i64 0),
                  AV.val (Value.int IntKind.i64 0), AV.val (Value.int IntKind.i64 0), AV.val (Value.int IntKind.i64 0)]),
            (2,
              AO.box
                [AV.val (Value.int IntKind.i64 a0), AV.val (Value.int IntKind.i64 a1), AV.val (Value.int IntKind.i64 a2),
                  AV.val (Value.int IntKind.i64 a3), AV.val (Value.int IntKind.i64 a4), AV.val (Value.int IntKind.i64 a5),
                  AV.val (Value.int IntKind.i64 a6), AV.val (Value.int IntKind.i64 a7), AV.val (Value.int IntKind.i64 a8),
                  AV.val (Value.int IntKind.i64 0), AV.val (Value.int IntKind.i64 0), AV.val (Value.int IntKind.i64 0),
                  AV.val (Value.int IntKind.i64 0), AV.val (Value.int IntKind.i64 0), AV.val (Value.int IntKind.i64 0),
                  AV.val (Value.int IntKind.i64 0), AV.val (Value.int IntKind.i64 0), AV.val (Value.int IntKind.i64 0),
                  AV.val (Value.int IntKind.i64 0), AV.val (Value.int IntKind.i64 0), AV.val (Value.int IntKind.i64 0),
                  AV.val (Value.int IntKind.i64 0), AV.val (Value.int IntKind.i64 0), AV.val (Value.int IntKind.i64 0)])],
        nx := 1000000, ps := [] }) := by kernel_rfl
theorem b150_3 (L : Lp) (R : Option Res → Prop) (N : St → Prop) (a0 : Int) (a1 : Int) (a2 : Int) (a3 : Int) (a4 : Int) (a5 : Int) (a6 : Int) (a7 : Int) (a8 : Int) (a9 : Int) (a10 : Int) (a11 : Int) (a12 : Int) (a13 : Int) (a14 : Int) (a15 : Int) (a16 : Int) (a17 : Int) (a18 : Int) (a19 : Int) (a20 : Int) (a21 : Int) (a22 : Int) (a23 : Int) : (evP E150 G150 L (lp150 3) (st150 a0 a1 a2 a3 a4 a5 a6 a7 a8 a9 a10 a11 a12 a13 a14 a15 a16 a17 a18 a19 a20 a21 a22 a23 3 a0 a1 a2 a3 a4 a5 a6 a7 a8 0 0 0 0 0 0 0 0 0 0 0 0 0 0 0) (rk150 L R 3 N)) = (
    N
      {
        tm :=
          [AV.agg
              [AV.val (Value.int IntKind.i64 a0), AV.val (Value.int IntKind.i64 a1), AV.val (Value.int IntKind.i64 a2),
                AV.val (Value.int IntKind.i64 a3), AV.val (Value.int IntKind.i64 a4), AV.val (Value.int IntKind.i64 a5),
                AV.val (Value.int IntKind.i64 a6), AV.val (Value.int IntKind.i64 a7), AV.val (Value.int IntKind.i64 a8),
                AV.val (Value.int IntKind.i64 a9), AV.val (Value.int IntKind.i64 a10), AV.val (Value.int IntKind.i64 a11),
                AV.val (Value.int IntKind.i64 a12), AV.val (Value.int IntKind.i64 a13), AV.val (Value.int IntKind.i64 a14),
                AV.val (Value.int IntKind.i64 a15), AV.val (Value.int IntKind.i64 a16), AV.val (Value.int IntKind.i64 a17),
                AV.val (Value.int IntKind.i64 a18), AV.val (Value.int IntKind.i64 a19), AV.val (Value.int IntKind.i64 a20),
                AV.val (Value.int IntKind.i64 a21), AV.val (Value.int IntKind.i64 a22), AV.val (Value.int IntKind.i64 a23)],
            AV.ptr 0 0, AV.ptr 1 0, AV.ptr 2 0, AV.val (Value.int IntKind.i64 4), AV.junk, AV.junk, AV.junk, AV.junk,
            AV.junk, AV.junk, AV.junk, AV.junk, AV.junk, AV.junk, AV.val (Value.tuple #[])],
        ob :=
          [(0,
              AO.box
                [AV.val (Value.int IntKind.i64 a0), AV.val (Value.int IntKind.i64 a1), AV.val (Value.int IntKind.i64 a2),
                  AV.val (Value.int IntKind.i64 a3), AV.val (Value.int IntKind.i64 a4), AV.val (Value.int IntKind.i64 a5),
                  AV.val (Value.int IntKind.i64 a6), AV.val (Value.int IntKind.i64 a7), AV.val (Value.int IntKind.i64 a8),
                  AV.val (Value.int IntKind.i64 a9), AV.val (Value.int IntKind.i64 a10), AV.val (Value.int IntKind.i64 a11),
                  AV.val (Value.int IntKind.i64 a12), AV.val (Value.int IntKind.i64 a13),
                  AV.val (Value.int IntKind.i64 a14), AV.val (Value.int IntKind.i64 a15),
                  AV.val (Value.int IntKind.i64 a16), AV.val (Value.int IntKind.i64 a17),
                  AV.val (Value.int IntKind.i64 a18), AV.val (Value.int IntKind.i64 a19),
                  AV.val (Value.int IntKind.i64 a20), AV.val (Value.int IntKind.i64 a21),
                  AV.val (Value.int IntKind.i64 a22), AV.val (Value.int IntKind.i64 a23)]),
            (1,
              AO.box
                [AV.val (Value.int IntKind.i64 0), AV.val (Value.int IntKind.i64 0), AV.val (Value.int IntKind.i64 0),
                  AV.val (Value.int IntKind.i64 0), AV.val (Value.int IntKind.i64 0), AV.val (Value.int IntKind.i64 0),
                  AV.val (Value.int IntKind.i64 0), AV.val (Value.int IntKind.i64 0), AV.val (Value.int IntKind.i64 0),
                  AV.val (Value.int IntKind.i64 0), AV.val (Value.int IntKind.i64 0), AV.val (Value.int IntKind.i64 0),
                  AV.val (Value.int IntKind.i64 0), AV.val (Value.int IntKind.i64 0), AV.val (Value.int IntKind.i64 0),
                  AV.val (Value.int IntKind.i64 0), AV.val (Value.int IntKind.i64 0), AV.val (Value.int IntKind.i64 0),
                  AV.val (Value.int IntKind.i64 0), AV.val (Value.int IntKind.i64 0), AV.val (Value.int IntKind.i64 0),
                  AV.val (Value.int IntKind.i64 0), AV.val (Value.int IntKind.i64 0), AV.val (Value.int IntKind.i64 0)]),
            (2,
              AO.box
                [AV.val (Value.int IntKind.i64 a0), AV.val (Value.int IntKind.i64 a1), AV.val (Value.int IntKind.i64 a2),
                  AV.val (Value.int IntKind.i64 a3), AV.val (Value.int IntKind.i64 a4), AV.val (Value.int IntKind.i64 a5),
                  AV.val (Value.int IntKind.i64 a6), AV.val (Value.int IntKind.i64 a7), AV.val (Value.int IntKind.i64 a8),
                  AV.val (Value.int IntKind.i64 a9), AV.val (Value.int IntKind.i64 a10), AV.val (Value.int IntKind.i64 a11),
                  AV.val (Value.int IntKind.i64 0), AV.val (Value.int IntKind.i64 0), AV.val (Value.int IntKind.i64 0),
                  AV.val (Value.int IntKind.i64 0), AV.val (Value.int IntKind.i64 0), AV.val (Value.int IntKind.i64 0),
                  AV.val (Value.int IntKind.i64 0), AV.val (Value.int IntKind.i64 0), AV.val (Value.int IntKind.i64 0),
                  AV.val (Value.int IntKind.i64 0), AV.val (Value.int IntKind.i64 0), AV.val (Value.int IntKind.i64 0)])],
        nx := 1000000, ps := [] }) := by kernel_rfl
theorem b150_4 (L : Lp) (R : Option Res → Prop) (N : St → Prop) (a0 : Int) (a1 : Int) (a2 : Int) (a3 : Int) (a4 : Int) (a5 : Int) (a6 : Int) (a7 : Int) (a8 : Int) (a9 : Int) (a10 : Int) (a11 : Int) (a12 : Int) (a13 : Int) (a14 : Int) (a15 : Int) (a16 : Int) (a17 : Int) (a18 : Int) (a19 : Int) (a20 : Int) (a21 : Int) (a22 : Int) (a23 : Int) : (evP E150 G150 L (lp150 3) (st150 a0 a1 a2 a3 a4 a5 a6 a7 a8 a9 a10 a11 a12 a13 a14 a15 a16 a17 a18 a19 a20 a21 a22 a23 4 a0 a1 a2 a3 a4 a5 a6 a7 a8 a9 a10 a11 0 0 0 0 0 0 0 0 0 0 0 0) (rk150 L R 3 N)) = (
    N
      {
        tm :=
          [AV.agg
              [AV.val (Value.int IntKind.i64 a0), AV.val (Value.int IntKind.i64 a1), AV.val (Value.int IntKind.i64 a2),
                AV.val (Value.int IntKind.i64 a3), AV.val (Value.int IntKind.i64 a4), AV.val (Value.int IntKind.i64 a5),
                AV.val (Value.int IntKind.i64 a6), AV.val (Value.int IntKind.i64 a7), AV.val (Value.int IntKind.i64 a8),
                AV.val (Value.int IntKind.i64 a9), AV.val (Value.int IntKind.i64 a10), AV.val (Value.int IntKind.i64 a11),
                AV.val (Value.int IntKind.i64 a12), AV.val (Value.int IntKind.i64 a13), AV.val (Value.int IntKind.i64 a14),
                AV.val (Value.int IntKind.i64 a15), AV.val (Value.int IntKind.i64 a16), AV.val (Value.int IntKind.i64 a17),
                AV.val (Value.int IntKind.i64 a18), AV.val (Value.int IntKind.i64 a19), AV.val (Value.int IntKind.i64 a20),
                AV.val (Value.int IntKind.i64 a21), AV.val (Value.int IntKind.i64 a22), AV.val (Value.int IntKind.i64 a23)],
            AV.ptr 0 0, AV.ptr 1 0, AV.ptr 2 0, AV.val (Value.int IntKind.i64 5), AV.junk, AV.junk, AV.junk, AV.junk,
            AV.junk, AV.junk, AV.junk, AV.junk, AV.junk, AV.junk, AV.val (Value.tuple #[])],
        ob :=
          [(0,
              AO.box
                [AV.val (Value.int IntKind.i64 a0), AV.val (Value.int IntKind.i64 a1), AV.val (Value.int IntKind.i64 a2),
                  AV.val (Value.int IntKind.i64 a3), AV.val (Value.int IntKind.i64 a4), AV.val (Value.int IntKind.i64 a5),
                  AV.val (Value.int IntKind.i64 a6), AV.val (Value.int IntKind.i64 a7), AV.val (Value.int IntKind.i64 a8),
                  AV.val (Value.int IntKind.i64 a9), AV.val (Value.int IntKind.i64 a10), AV.val (Value.int IntKind.i64 a11),
                  AV.val (Value.int IntKind.i64 a12), AV.val (Value.int IntKind.i64 a13),
                  AV.val (Value.int IntKind.i64 a14), AV.val (Value.int IntKind.i64 a15),
                  AV.val (Value.int IntKind.i64 a16), AV.val (Value.int IntKind.i64 a17),
                  AV.val (Value.int IntKind.i64 a18), AV.val (Value.int IntKind.i64 a19),
                  AV.val (Value.int IntKind.i64 a20), AV.val (Value.int IntKind.i64 a21),
                  AV.val (Value.int IntKind.i64 a22), AV.val (Value.int IntKind.i64 a23)]),
            (1,
              AO.box
                [AV.val (Value.int IntKind.i64 0), AV.val (Value.int IntKind.i64 0), AV.val (Value.int IntKind.i64 0),
                  AV.val (Value.int IntKind.i64 0), AV.val (Value.int IntKind.i64 0), AV.val (Value.int IntKind.i64 0),
                  AV.val (Value.int IntKind.i64 0), AV.val (Value.int IntKind.i64 0), AV.val (Value.int IntKind.i64 0),
                  AV.val (Value.int IntKind.i64 0), AV.val (Value.int IntKind.i64 0), AV.val (Value.int IntKind.i64 0),
                  AV.val (Value.int IntKind.i64 0), AV.val (Value.int IntKind.i64 0), AV.val (Value.int IntKind.i64 0),
                  AV.val (Value.int IntKind.i64 0), AV.val (Value.int IntKind.i64 0), AV.val (Value.int IntKind.i64 0),
                  AV.val (Value.int IntKind.i64 0), AV.val (Value.int IntKind.i64 0), AV.val (Value.int IntKind.i64 0),
                  AV.val (Value.int IntKind.i64 0), AV.val (Value.int IntKind.i64 0), AV.val (Value.int IntKind.i64 0)]),
            (2,
              AO.box
                [AV.val (Value.int IntKind.i64 a0), AV.val (Value.int IntKind.i64 a1), AV.val (Value.int IntKind.i64 a2),
                  AV.val (Value.int IntKind.i64 a3), AV.val (Value.int IntKind.i64 a4), AV.val (Value.int IntKind.i64 a5),
                  AV.val (Value.int IntKind.i64 a6), AV.val (Value.int IntKind.i64 a7), AV.val (Value.int IntKind.i64 a8),
                  AV.val (Value.int IntKind.i64 a9), AV.val (Value.int IntKind.i64 a10), AV.val (Value.int IntKind.i64 a11),
                  AV.val (Value.int IntKind.i64 a12), AV.val (Value.int IntKind.i64 a13),
                  AV.val (Value.int IntKind.i64 a14), AV.val (Value.int IntKind.i64 0), AV.val (Value.int IntKind.i64 0),
                  AV.val (Value.int IntKind.i64 0), AV.val (Value.int IntKind.i64 0), AV.val (Value.int IntKind.i64 0),
                  AV.val (Value.int IntKind.i64 0), AV.val (Value.int IntKind.i64 0), AV.val (Value.int IntKind.i64 0),
                  AV.val (Value.int IntKind.i64 0)])],
        nx := 1000000, ps := [] }) := by kernel_rfl
theorem b150_5 (L : Lp) (R : Option Res → Prop) (N : St → Prop) (a0 : Int) (a1 : Int) (a2 : Int) (a3 : Int) (a4 : Int) (a5 : Int) (a6 : Int) (a7 : Int) (a8 : Int) (a9 : Int) (a10 : Int) (a11 : Int) (a12 : Int) (a13 : Int) (a14 : Int) (a15 : Int) (a16 : Int) (a17 : Int) (a18 : Int) (a19 : Int) (a20 : Int) (a21 : Int) (a22 : Int) (a23 : Int) : (evP E150 G150 L (lp150 3) (st150 a0 a1 a2 a3 a4 a5 a6 a7 a8 a9 a10 a11 a12 a13 a14 a15 a16 a17 a18 a19 a20 a21 a22 a23 5 a0 a1 a2 a3 a4 a5 a6 a7 a8 a9 a10 a11 a12 a13 a14 0 0 0 0 0 0 0 0 0) (rk150 L R 3 N)) = (
    N
      {
        tm :=
          [AV.agg
              [AV.val (Value.int IntKind.i64 a0), AV.val (Value.int IntKind.i64 a1), AV.val (Value.int IntKind.i64 a2),
                AV.val (Value.int IntKind.i64 a3), AV.val (Value.int IntKind.i64 a4), AV.val (Value.int IntKind.i64 a5),
                AV.val (Value.int IntKind.i64 a6), AV.val (Value.int IntKind.i64 a7), AV.val (Value.int IntKind.i64 a8),
                AV.val (Value.int IntKind.i64 a9), AV.val (Value.int IntKind.i64 a10), AV.val (Value.int IntKind.i64 a11),
                AV.val (Value.int IntKind.i64 a12), AV.val (Value.int IntKind.i64 a13), AV.val (Value.int IntKind.i64 a14),
                AV.val (Value.int IntKind.i64 a15), AV.val (Value.int IntKind.i64 a16), AV.val (Value.int IntKind.i64 a17),
                AV.val (Value.int IntKind.i64 a18), AV.val (Value.int IntKind.i64 a19), AV.val (Value.int IntKind.i64 a20),
                AV.val (Value.int IntKind.i64 a21), AV.val (Value.int IntKind.i64 a22), AV.val (Value.int IntKind.i64 a23)],
            AV.ptr 0 0, AV.ptr 1 0, AV.ptr 2 0, AV.val (Value.int IntKind.i64 6), AV.junk, AV.junk, AV.junk, AV.junk,
            AV.junk, AV.junk, AV.junk, AV.junk, AV.junk, AV.junk, AV.val (Value.tuple #[])],
        ob :=
          [(0,
              AO.box
                [AV.val (Value.int IntKind.i64 a0), AV.val (Value.int IntKind.i64 a1), AV.val (Value.int IntKind.i64 a2),
                  AV.val (Value.int IntKind.i64 a3), AV.val (Value.int IntKind.i64 a4), AV.val (Value.int IntKind.i64 a5),
                  AV.val (Value.int IntKind.i64 a6), AV.val (Value.int IntKind.i64 a7), AV.val (Value.int IntKind.i64 a8),
                  AV.val (Value.int IntKind.i64 a9), AV.val (Value.int IntKind.i64 a10), AV.val (Value.int IntKind.i64 a11),
                  AV.val (Value.int IntKind.i64 a12), AV.val (Value.int IntKind.i64 a13),
                  AV.val (Value.int IntKind.i64 a14), AV.val (Value.int IntKind.i64 a15),
                  AV.val (Value.int IntKind.i64 a16), AV.val (Value.int IntKind.i64 a17),
                  AV.val (Value.int IntKind.i64 a18), AV.val (Value.int IntKind.i64 a19),
                  AV.val (Value.int IntKind.i64 a20), AV.val (Value.int IntKind.i64 a21),
                  AV.val (Value.int IntKind.i64 a22), AV.val (Value.int IntKind.i64 a23)]),
            (1,
              AO.box
                [AV.val (Value.int IntKind.i64 0), AV.val (Value.int IntKind.i64 0), AV.val (Value.int IntKind.i64 0),
                  AV.val (Value.int IntKind.i64 0), AV.val (Value.int IntKind.i64 0), AV.val (Value.int IntKind.i64 0),
                  AV.val (Value.int IntKind.i64 0), AV.val (Value.int IntKind.i64 0), AV.val (Value.int IntKind.i64 0),
                  AV.val (Value.int IntKind.i64 0), AV.val (Value.int IntKind.i64 0), AV.val (Value.int IntKind.i64 0),
                  AV.val (Value.int IntKind.i64 0), AV.val (Value.int IntKind.i64 0), AV.val (Value.int IntKind.i64 0),
                  AV.val (Value.int IntKind.i64 0), AV.val (Value.int IntKind.i64 0), AV.val (Value.int IntKind.i64 0),
                  AV.val (Value.int IntKind.i64 0), AV.val (Value.int IntKind.i64 0), AV.val (Value.int IntKind.i64 0),
                  AV.val (Value.int IntKind.i64 0), AV.val (Value.int IntKind.i64 0), AV.val (Value.int IntKind.i64 0)]),
            (2,
              AO.box
                [AV.val (Value.int IntKind.i64 a0), AV.val (Value.int IntKind.i64 a1), AV.val (Value.int IntKind.i64 a2),
                  AV.val (Value.int IntKind.i64 a3), AV.val (Value.int IntKind.i64 a4), AV.val (Value.int IntKind.i64 a5),
                  AV.val (Value.int IntKind.i64 a6), AV.val (Value.int IntKind.i64 a7), AV.val (Value.int IntKind.i64 a8),
                  AV.val (Value.int IntKind.i64 a9), AV.val (Value.int IntKind.i64 a10), AV.val (Value.int IntKind.i64 a11),
                  AV.val (Value.int IntKind.i64 a12), AV.val (Value.int IntKind.i64 a13),
                  AV.val (Value.int IntKind.i64 a14), AV.val (Value.int IntKind.i64 a15),
                  AV.val (Value.int IntKind.i64 a16), AV.val (Value.int IntKind.i64 a17), AV.val (Value.int IntKind.i64 0),
                  AV.val (Value.int IntKind.i64 0), AV.val (Value.int IntKind.i64 0), AV.val (Value.int IntKind.i64 0),
                  AV.val (Value.int IntKind.i64 0), AV.val (Value.int IntKind.i64 0)])],
        nx := 1000000, ps := [] }) := by kernel_rfl
theorem b150_6 (L : Lp) (R : Option Res → Prop) (N : St → Prop) (a0 : Int) (a1 : Int) (a2 : Int) (a3 : Int) (a4 : Int) (a5 : Int) (a6 : Int) (a7 : Int) (a8 : Int) (a9 : Int) (a10 : Int) (a11 : Int) (a12 : Int) (a13 : Int) (a14 : Int) (a15 : Int) (a16 : Int) (a17 : Int) (a18 : Int) (a19 : Int) (a20 : Int) (a21 : Int) (a22 : Int) (a23 : Int) : (evP E150 G150 L (lp150 3) (st150 a0 a1 a2 a3 a4 a5 a6 a7 a8 a9 a10 a11 a12 a13 a14 a15 a16 a17 a18 a19 a20 a21 a22 a23 6 a0 a1 a2 a3 a4 a5 a6 a7 a8 a9 a10 a11 a12 a13 a14 a15 a16 a17 0 0 0 0 0 0) (rk150 L R 3 N)) = (
    N
      {
        tm :=
          [AV.agg
              [AV.val (Value.int IntKind.i64 a0), AV.val (Value.int IntKind.i64 a1), AV.val (Value.int IntKind.i64 a2),
                AV.val (Value.int IntKind.i64 a3), AV.val (Value.int IntKind.i64 a4), AV.val (Value.int IntKind.i64 a5),
                AV.val (Value.int IntKind.i64 a6), AV.val (Value.int IntKind.i64 a7), AV.val (Value.int IntKind.i64 a8),
                AV.val (Value.int IntKind.i64 a9), AV.val (Value.int IntKind.i64 a10), AV.val (Value.int IntKind.i64 a11),
                AV.val (Value.int IntKind.i64 a12), AV.val (Value.int IntKind.i64 a13), AV.val (Value.int IntKind.i64 a14),
                AV.val (Value.int IntKind.i64 a15), AV.val (Value.int IntKind.i64 a16), AV.val (Value.int IntKind.i64 a17),
                AV.val (Value.int IntKind.i64 a18), AV.val (Value.int IntKind.i64 a19), AV.val (Value.int IntKind.i64 a20),
                AV.val (Value.int IntKind.i64 a21), AV.val (Value.int IntKind.i64 a22), AV.val (Value.int IntKind.i64 a23)],
            AV.ptr 0 0, AV.ptr 1 0, AV.ptr 2 0, AV.val (Value.int IntKind.i64 7), AV.junk, AV.junk, AV.junk, AV.junk,
            AV.junk, AV.junk, AV.junk, AV.junk, AV.junk, AV.junk, AV.val (Value.tuple #[])],
        ob :=
          [(0,
              AO.box
                [AV.val (Value.int IntKind.i64 a0), AV.val (Value.int IntKind.i64 a1), AV.val (Value.int IntKind.i64 a2),
                  AV.val (Value.int IntKind.i64 a3), AV.val (Value.int IntKind.i64 a4), AV.val (Value.int IntKind.i64 a5),
                  AV.val (Value.int IntKind.i64 a6), AV.val (Value.int IntKind.i64 a7), AV.val (Value.int IntKind.i64 a8),
                  AV.val (Value.int IntKind.i64 a9), AV.val (Value.int IntKind.i64 a10), AV.val (Value.int IntKind.i64 a11),
                  AV.val (Value.int IntKind.i64 a12), AV.val (Value.int IntKind.i64 a13),
                  AV.val (Value.int IntKind.i64 a14), AV.val (Value.int IntKind.i64 a15),
                  AV.val (Value.int IntKind.i64 a16), AV.val (Value.int IntKind.i64 a17),
                  AV.val (Value.int IntKind.i64 a18), AV.val (Value.int IntKind.i64 a19),
                  AV.val (Value.int IntKind.i64 a20), AV.val (Value.int IntKind.i64 a21),
                  AV.val (Value.int IntKind.i64 a22), AV.val (Value.int IntKind.i64 a23)]),
            (1,
              AO.box
                [AV.val (Value.int IntKind.i64 0), AV.val (Value.int IntKind.i64 0), AV.val (Value.int IntKind.i64 0),
                  AV.val (Value.int IntKind.i64 0), AV.val (Value.int IntKind.i64 0), AV.val (Value.int IntKind.i64 0),
                  AV.val (Value.int IntKind.i64 0), AV.val (Value.int IntKind.i64 0), AV.val (Value.int IntKind.i64 0),
                  AV.val (Value.int IntKind.i64 0), AV.val (Value.int IntKind.i64 0), AV.val (Value.int IntKind.i64 0),
                  AV.val (Value.int IntKind.i64 0), AV.val (Value.int IntKind.i64 0), AV.val (Value.int IntKind.i64 0),
                  AV.val (Value.int IntKind.i64 0), AV.val (Value.int IntKind.i64 0), AV.val (Value.int IntKind.i64 0),
                  AV.val (Value.int IntKind.i64 0), AV.val (Value.int IntKind.i64 0), AV.val (Value.int IntKind.i64 0),
                  AV.val (Value.int IntKind.i64 0), AV.val (Value.int IntKind.i64 0), AV.val (Value.int IntKind.i64 0)]),
            (2,
              AO.box
                [AV.val (Value.int IntKind.i64 a0), AV.val (Value.int IntKind.i64 a1), AV.val (Value.int IntKind.i64 a2),
                  AV.val (Value.int IntKind.i64 a3), AV.val (Value.int IntKind.i64 a4), AV.val (Value.int IntKind.i64 a5),
                  AV.val (Value.int IntKind.i64 a6), AV.val (Value.int IntKind.i64 a7), AV.val (Value.int IntKind.i64 a8),
                  AV.val (Value.int IntKind.i64 a9), AV.val (Value.int IntKind.i64 a10), AV.val (Value.int IntKind.i64 a11),
                  AV.val (Value.int IntKind.i64 a12), AV.val (Value.int IntKind.i64 a13),
                  AV.val (Value.int IntKind.i64 a14), AV.val (Value.int IntKind.i64 a15),
                  AV.val (Value.int IntKind.i64 a16), AV.val (Value.int IntKind.i64 a17),
                  AV.val (Value.int IntKind.i64 a18), AV.val (Value.int IntKind.i64 a19),
                  AV.val (Value.int IntKind.i64 a20), AV.val (Value.int IntKind.i64 0), AV.val (Value.int IntKind.i64 0),
                  AV.val (Value.int IntKind.i64 0)])],
        nx := 1000000, ps := [] }) := by kernel_rfl
theorem b150_7 (L : Lp) (R : Option Res → Prop) (N : St → Prop) (a0 : Int) (a1 : Int) (a2 : Int) (a3 : Int) (a4 : Int) (a5 : Int) (a6 : Int) (a7 : Int) (a8 : Int) (a9 : Int) (a10 : Int) (a11 : Int) (a12 : Int) (a13 : Int) (a14 : Int) (a15 : Int) (a16 : Int) (a17 : Int) (a18 : Int) (a19 : Int) (a20 : Int) (a21 : Int) (a22 : Int) (a23 : Int) : (evP E150 G150 L (lp150 3) (st150 a0 a1 a2 a3 a4 a5 a6 a7 a8 a9 a10 a11 a12 a13 a14 a15 a16 a17 a18 a19 a20 a21 a22 a23 7 a0 a1 a2 a3 a4 a5 a6 a7 a8 a9 a10 a11 a12 a13 a14 a15 a16 a17 a18 a19 a20 0 0 0) (rk150 L R 3 N)) = (
    N
      {
        tm :=
          [AV.agg
              [AV.val (Value.int IntKind.i64 a0), AV.val (Value.int IntKind.i64 a1), AV.val (Value.int IntKind.i64 a2),
                AV.val (Value.int IntKind.i64 a3), AV.val (Value.int IntKind.i64 a4), AV.val (Value.int IntKind.i64 a5),
                AV.val (Value.int IntKind.i64 a6), AV.val (Value.int IntKind.i64 a7), AV.val (Value.int IntKind.i64 a8),
                AV.val (Value.int IntKind.i64 a9), AV.val (Value.int IntKind.i64 a10), AV.val (Value.int IntKind.i64 a11),
                AV.val (Value.int IntKind.i64 a12), AV.val (Value.int IntKind.i64 a13), AV.val (Value.int IntKind.i64 a14),
                AV.val (Value.int IntKind.i64 a15), AV.val (Value.int IntKind.i64 a16), AV.val (Value.int IntKind.i64 a17),
                AV.val (Value.int IntKind.i64 a18), AV.val (Value.int IntKind.i64 a19), AV.val (Value.int IntKind.i64 a20),
                AV.val (Value.int IntKind.i64 a21), AV.val (Value.int IntKind.i64 a22), AV.val (Value.int IntKind.i64 a23)],
            AV.ptr 0 0, AV.ptr 1 0, AV.ptr 2 0, AV.val (Value.int IntKind.i64 8), AV.junk, AV.junk, AV.junk, AV.junk,
            AV.junk, AV.junk, AV.junk, AV.junk, AV.junk, AV.junk, AV.val (Value.tuple #[])],
        ob :=
          [(0,
              AO.box
                [AV.val (Value.int IntKind.i64 a0), AV.val (Value.int IntKind.i64 a1), AV.val (Value.int IntKind.i64 a2),
                  AV.val (Value.int IntKind.i64 a3), AV.val (Value.int IntKind.i64 a4), AV.val (Value.int IntKind.i64 a5),
                  AV.val (Value.int IntKind.i64 a6), AV.val (Value.int IntKind.i64 a7), AV.val (Value.int IntKind.i64 a8),
                  AV.val (Value.int IntKind.i64 a9), AV.val (Value.int IntKind.i64 a10), AV.val (Value.int IntKind.i64 a11),
                  AV.val (Value.int IntKind.i64 a12), AV.val (Value.int IntKind.i64 a13),
                  AV.val (Value.int IntKind.i64 a14), AV.val (Value.int IntKind.i64 a15),
                  AV.val (Value.int IntKind.i64 a16), AV.val (Value.int IntKind.i64 a17),
                  AV.val (Value.int IntKind.i64 a18), AV.val (Value.int IntKind.i64 a19),
                  AV.val (Value.int IntKind.i64 a20), AV.val (Value.int IntKind.i64 a21),
                  AV.val (Value.int IntKind.i64 a22), AV.val (Value.int IntKind.i64 a23)]),
            (1,
              AO.box
                [AV.val (Value.int IntKind.i64 0), AV.val (Value.int IntKind.i64 0), AV.val (Value.int IntKind.i64 0),
                  AV.val (Value.int IntKind.i64 0), AV.val (Value.int IntKind.i64 0), AV.val (Value.int IntKind.i64 0),
                  AV.val (Value.int IntKind.i64 0), AV.val (Value.int IntKind.i64 0), AV.val (Value.int IntKind.i64 0),
                  AV.val (Value.int IntKind.i64 0), AV.val (Value.int IntKind.i64 0), AV.val (Value.int IntKind.i64 0),
                  AV.val (Value.int IntKind.i64 0), AV.val (Value.int IntKind.i64 0), AV.val (Value.int IntKind.i64 0),
                  AV.val (Value.int IntKind.i64 0), AV.val (Value.int IntKind.i64 0), AV.val (Value.int IntKind.i64 0),
                  AV.val (Value.int IntKind.i64 0), AV.val (Value.int IntKind.i64 0), AV.val (Value.int IntKind.i64 0),
                  AV.val (Value.int IntKind.i64 0), AV.val (Value.int IntKind.i64 0), AV.val (Value.int IntKind.i64 0)]),
            (2,
              AO.box
                [AV.val (Value.int IntKind.i64 a0), AV.val (Value.int IntKind.i64 a1), AV.val (Value.int IntKind.i64 a2),
                  AV.val (Value.int IntKind.i64 a3), AV.val (Value.int IntKind.i64 a4), AV.val (Value.int IntKind.i64 a5),
                  AV.val (Value.int IntKind.i64 a6), AV.val (Value.int IntKind.i64 a7), AV.val (Value.int IntKind.i64 a8),
                  AV.val (Value.int IntKind.i64 a9), AV.val (Value.int IntKind.i64 a10), AV.val (Value.int IntKind.i64 a11),
                  AV.val (Value.int IntKind.i64 a12), AV.val (Value.int IntKind.i64 a13),
                  AV.val (Value.int IntKind.i64 a14), AV.val (Value.int IntKind.i64 a15),
                  AV.val (Value.int IntKind.i64 a16), AV.val (Value.int IntKind.i64 a17),
                  AV.val (Value.int IntKind.i64 a18), AV.val (Value.int IntKind.i64 a19),
                  AV.val (Value.int IntKind.i64 a20), AV.val (Value.int IntKind.i64 a21),
                  AV.val (Value.int IntKind.i64 a22), AV.val (Value.int IntKind.i64 a23)])],
        nx := 1000000, ps := [] }) := by kernel_rfl
theorem b150_8 (L : Lp) (R : Option Res → Prop) (N : St → Prop) (a0 : Int) (a1 : Int) (a2 : Int) (a3 : Int) (a4 : Int) (a5 : Int) (a6 : Int) (a7 : Int) (a8 : Int) (a9 : Int) (a10 : Int) (a11 : Int) (a12 : Int) (a13 : Int) (a14 : Int) (a15 : Int) (a16 : Int) (a17 : Int) (a18 : Int) (a19 : Int) (a20 : Int) (a21 : Int) (a22 : Int) (a23 : Int) : (evP E150 G150 L (lp150 3) (st150 a0 a1 a2 a3 a4 a5 a6 a7 a8 a9 a10 a11 a12 a13 a14 a15 a16 a17 a18 a19 a20 a21 a22 a23 8 a0 a1 a2 a3 a4 a5 a6 a7 a8 a9 a10 a11 a12 a13 a14 a15 a16 a17 a18 a19 a20 a21 a22 a23) (rk150 L R 3 N)) = (
    R
      (some
        {
          av :=
            AV.agg
              [AV.val (Value.int IntKind.i64 a0), AV.val (Value.int IntKind.i64 a1), AV.val (Value.int IntKind.i64 a2),
                AV.val (Value.int IntKind.i64 a3), AV.val (Value.int IntKind.i64 a4), AV.val (Value.int IntKind.i64 a5),
                AV.val (Value.int IntKind.i64 a6), AV.val (Value.int IntKind.i64 a7), AV.val (Value.int IntKind.i64 a8),
                AV.val (Value.int IntKind.i64 a9), AV.val (Value.int IntKind.i64 a10), AV.val (Value.int IntKind.i64 a11),
                AV.val (Value.int IntKind.i64 a12), AV.val (Value.int IntKind.i64 a13), AV.val (Value.int IntKind.i64 a14),
                AV.val (Value.int IntKind.i64 a15), AV.val (Value.int IntKind.i64 a16), AV.val (Value.int IntKind.i64 a17),
                AV.val (Value.int IntKind.i64 a18), AV.val (Value.int IntKind.i64 a19), AV.val (Value.int IntKind.i64 a20),
                AV.val (Value.int IntKind.i64 a21), AV.val (Value.int IntKind.i64 a22), AV.val (Value.int IntKind.i64 a23)],
          obs := [], outs := [] })) := by kernel_rfl
def sq150 (a0 : Int) (a1 : Int) (a2 : Int) (a3 : Int) (a4 : Int) (a5 : Int) (a6 : Int) (a7 : Int) (a8 : Int) (a9 : Int) (a10 : Int) (a11 : Int) (a12 : Int) (a13 : Int) (a14 : Int) (a15 : Int) (a16 : Int) (a17 : Int) (a18 : Int) (a19 : Int) (a20 : Int) (a21 : Int) (a22 : Int) (a23 : Int) : Nat → St
  | 0 => st150 a0 a1 a2 a3 a4 a5 a6 a7 a8 a9 a10 a11 a12 a13 a14 a15 a16 a17 a18 a19 a20 a21 a22 a23 0 0 0 0 0 0 0 0 0 0 0 0 0 0 0 0 0 0 0 0 0 0 0 0 0
  | 1 => st150 a0 a1 a2 a3 a4 a5 a6 a7 a8 a9 a10 a11 a12 a13 a14 a15 a16 a17 a18 a19 a20 a21 a22 a23 1 a0 a1 a2 0 0 0 0 0 0 0 0 0 0 0 0 0 0 0 0 0 0 0 0 0
  | 2 => st150 a0 a1 a2 a3 a4 a5 a6 a7 a8 a9 a10 a11 a12 a13 a14 a15 a16 a17 a18 a19 a20 a21 a22 a23 2 a0 a1 a2 a3 a4 a5 0 0 0 0 0 0 0 0 0 0 0 0 0 0 0 0 0 0
  | 3 => st150 a0 a1 a2 a3 a4 a5 a6 a7 a8 a9 a10 a11 a12 a13 a14 a15 a16 a17 a18 a19 a20 a21 a22 a23 3 a0 a1 a2 a3 a4 a5 a6 a7 a8 0 0 0 0 0 0 0 0 0 0 0 0 0 0 0
  | 4 => st150 a0 a1 a2 a3 a4 a5 a6 a7 a8 a9 a10 a11 a12 a13 a14 a15 a16 a17 a18 a19 a20 a21 a22 a23 4 a0 a1 a2 a3 a4 a5 a6 a7 a8 a9 a10 a11 0 0 0 0 0 0 0 0 0 0 0 0
  | 5 => st150 a0 a1 a2 a3 a4 a5 a6 a7 a8 a9 a10 a11 a12 a13 a14 a15 a16 a17 a18 a19 a20 a21 a22 a23 5 a0 a1 a2 a3 a4 a5 a6 a7 a8 a9 a10 a11 a12 a13 a14 0 0 0 0 0 0 0 0 0
  | 6 => st150 a0 a1 a2 a3 a4 a5 a6 a7 a8 a9 a10 a11 a12 a13 a14 a15 a16 a17 a18 a19 a20 a21 a22 a23 6 a0 a1 a2 a3 a4 a5 a6 a7 a8 a9 a10 a11 a12 a13 a14 a15 a16 a17 0 0 0 0 0 0
  | 7 => st150 a0 a1 a2 a3 a4 a5 a6 a7 a8 a9 a10 a11 a12 a13 a14 a15 a16 a17 a18 a19 a20 a21 a22 a23 7 a0 a1 a2 a3 a4 a5 a6 a7 a8 a9 a10 a11 a12 a13 a14 a15 a16 a17 a18 a19 a20 0 0 0
  | _ => st150 a0 a1 a2 a3 a4 a5 a6 a7 a8 a9 a10 a11 a12 a13 a14 a15 a16 a17 a18 a19 a20 a21 a22 a23 8 a0 a1 a2 a3 a4 a5 a6 a7 a8 a9 a10 a11 a12 a13 a14 a15 a16 a17 a18 a19 a20 a21 a22 a23
theorem h150 : G1Ok Try.prog 150 g150 := by
  intro args obs k h
  unfold g150 at h
  split at h
  · rename_i k us
    split at h
    rotate_left
    · exact h.elim
    rename_i a ha
    obtain rfl := elemOf_inv ha
    obtain ⟨a0, a1, a2, a3, a4, a5, a6, a7, a8, a9, a10, a11, a12, a13, a14, a15, a16, a17, a18, a19, a20, a21, a22, a23, ⟨⟩⟩ := a
    refine ⟨_, ctr_fn ok0 hg150 Try.func150 (by kernel_rfl) (by kernel_rfl) (by kernel_rfl) fun C => ?_, h⟩
    show bodyP E0 G150 _ Try.f150 [.agg [.val (.int .i64 a0), .val (.int .i64 a1), .val (.int .i64 a2), .val (.int .i64 a3), .val (.int .i64 a4), .val (.int .i64 a5), .val (.int .i64 a6), .val (.int .i64 a7), .val (.int .i64 a8), .val (.int .i64 a9), .val (.int .i64 a10), .val (.int .i64 a11), .val (.int .i64 a12), .val (.int .i64 a13), .val (.int .i64 a14), .val (.int .i64 a15), .val (.int .i64 a16), .val (.int .i64 a17), .val (.int .i64 a18), .val (.int .i64 a19), .val (.int .i64 a20), .val (.int .i64 a21), .val (.int .i64 a22), .val (.int .i64 a23)]] [] _
    rw [e150]
    refine loopSeq okf150 hg150 (sq150 a0 a1 a2 a3 a4 a5 a6 a7 a8 a9 a10 a11 a12 a13 a14 a15 a16 a17 a18 a19 a20 a21 a22 a23) 8 (fun N i hi next => ?_) (fun N => ?_)
    · have cs : i = 0 ∨ i = 1 ∨ i = 2 ∨ i = 3 ∨ i = 4 ∨ i = 5 ∨ i = 6 ∨ i = 7 := by omega
      rcases cs with rfl | rfl | rfl | rfl | rfl | rfl | rfl | rfl
      · show evP E150 G150 _ (lp150 3) (st150 a0 a1 a2 a3 a4 a5 a6 a7 a8 a9 a10 a11 a12 a13 a14 a15 a16 a17 a18 a19 a20 a21 a22 a23 0 0 0 0 0 0 0 0 0 0 0 0 0 0 0 0 0 0 0 0 0 0 0 0 0) (rk150 _ _ 3 _)
        rw [b150_0]
        exact next
      · show evP E150 G150 _ (lp150 3) (st150 a0 a1 a2 a3 a4 a5 a6 a7 a8 a9 a10 a11 a12 a13 a14 a15 a16 a17 a18 a19 a20 a21 a22 a23 1 a0 a1 a2 0 0 0 0 0 0 0 0 0 0 0 0 0 0 0 0 0 0 0 0 0) (rk150 _ _ 3 _)
        rw [b150_1]
        exact next
      · show evP E150 G150 _ (lp150 3) (st150 a0 a1 a2 a3 a4 a5 a6 a7 a8 a9 a10 a11 a12 a13 a14 a15 a16 a17 a18 a19 a20 a21 a22 a23 2 a0 a1 a2 a3 a4 a5 0 0 0 0 0 0 0 0 0 0 0 0 0 0 0 0 0 0) (rk150 _ _ 3 _)
        rw [b150_2]
        exact next
      · show evP E150 G150 _ (lp150 3) (st150 a0 a1 a2 a3 a4 a5 a6 a7 a8 a9 a10 a11 a12 a13 a14 a15 a16 a17 a18 a19 a20 a21 a22 a23 3 a0 a1 a2 a3 a4 a5 a6 a7 a8 0 0 0 0 0 0 0 0 0 0 0 0 0 0 0) (rk150 _ _ 3 _)
        rw [b150_3]
        exact next
      · show evP E150 G150 _ (lp150 3) (st150 a0 a1 a2 a3 a4 a5 a6 a7 a8 a9 a10 a11 a12 a13 a14 a15 a16 a17 a18 a19 a20 a21 a22 a23 4 a0 a1 a2 a3 a4 a5 a6 a7 a8 a9 a10 a11 0 0 0 0 0 0 0 0 0 0 0 0) (rk150 _ _ 3 _)
        rw [b150_4]
        exact next
      · show evP E150 G150 _ (lp150 3) (st150 a0 a1 a2 a3 a4 a5 a6 a7 a8 a9 a10 a11 a12 a13 a14 a15 a16 a17 a18 a19 a20 a21 a22 a23 5 a0 a1 a2 a3 a4 a5 a6 a7 a8 a9 a10 a11 a12 a13 a14 0 0 0 0 0 0 0 0 0) (rk150 _ _ 3 _)
        rw [b150_5]
        exact next
      · show evP E150 G150 _ (lp150 3) (st150 a0 a1 a2 a3 a4 a5 a6 a7 a8 a9 a10 a11 a12 a13 a14 a15 a16 a17 a18 a19 a20 a21 a22 a23 6 a0 a1 a2 a3 a4 a5 a6 a7 a8 a9 a10 a11 a12 a13 a14 a15 a16 a17 0 0 0 0 0 0) (rk150 _ _ 3 _)
        rw [b150_6]
        exact next
      · show evP E150 G150 _ (lp150 3) (st150 a0 a1 a2 a3 a4 a5 a6 a7 a8 a9 a10 a11 a12 a13 a14 a15 a16 a17 a18 a19 a20 a21 a22 a23 7 a0 a1 a2 a3 a4 a5 a6 a7 a8 a9 a10 a11 a12 a13 a14 a15 a16 a17 a18 a19 a20 0 0 0) (rk150 _ _ 3 _)
        rw [b150_7]
        exact next
    · show evP E150 G150 _ (lp150 3) (st150 a0 a1 a2 a3 a4 a5 a6 a7 a8 a9 a10 a11 a12 a13 a14 a15 a16 a17 a18 a19 a20 a21 a22 a23 8 a0 a1 a2 a3 a4 a5 a6 a7 a8 a9 a10 a11 a12 a13 a14 a15 a16 a17 a18 a19 a20 a21 a22 a23) (rk150 _ _ 3 _)
      rw [b150_8]
      rfl
  · exact h.elim
def g141 : G1
  | [.agg us], [], k => match elemOf kc us with
    | some a => k ⟨.agg ((vals kc a).map .val), [], []⟩
    | none => False
  | _, _, _ => False
noncomputable def E141 : Env := E0.of Try.f141
noncomputable def G141 : Gk := gk [(150, g150), (19, g19)]
noncomputable def lp141 (n : Nat) : Code := (loopOf n (codeOf Try.f141)).getD .skip
noncomputable def ct141 (L : Lp) (R : Option Res → Prop) (n : Nat) : Kt := contOf E141 G141 L n (codeOf Try.f141) (endK E141 Try.f141.results.toList R)
noncomputable def rk141 (L : Lp) (R : Option Res → Prop) (n : Nat) (N : St → Prop) : Kt := rk (jof E141 (lp141 n)) N (ct141 L R n)
noncomputable def LOOP141 (L : Lp) (R : Option Res → Prop) (n : Nat) (st : St) : Prop := L (lp141 n) st (ct141 L R n)
theorem hg141 : HG Try.prog G141 := (hg_cons h150 (hg_cons h19 hg_nil))
theorem okf141 : Ok Try.prog E141 := ok0.of Try.f141
theorem e141 (L : Lp) (R : Option Res → Prop) (a0 : ByteArray) (a1 : Int) (a2 : ByteArray) (a3 : Int) (a4 : Int) (a5 : Int) (a6 : Int) (a7 : Int) (a8 : Int) (a9 : Int) (a10 : Int) (a11 : Int) (a12 : Int) (a13 : Int) (a14 : Int) (a15 : Int) (a16 : Int) (a17 : Int) (a18 : Int) (a19 : Int) (a20 : Int) (a21 : Int) (a22 : Int) (a23 : Int) (a24 : Int) (a25 : Int) (a26 : Int) (a27 : Int) (a28 : Int) (a29 : Int) (a30 : Bool) : (bodyP E0 G141 L Try.f141 [.agg [.val (.string a0), .val (.int .i64 a1), .val (.string a2), .val (.int .i64 a3), .val (.int .i64 a4), .val (.int .i64 a5), .val (.int .i64 a6), .val (.int .i64 a7), .val (.int .i64 a8), .val (.int .i64 a9), .val (.int .i64 a10), .val (.int .i64 a11), .val (.int .i64 a12), .val (.int .i64 a13), .val (.int .i64 a14), .val (.int .i64 a15), .val (.int .i64 a16), .val (.int .i64 a17), .val (.int .i64 a18), .val (.int .i64 a19), .val (.int .i64 a20), .val (.int .i64 a21), .val (.int .i64 a22), .val (.int .i64 a23), .val (.int .i64 a24), .val (.int .i64 a25), .val (.int .i64 a26), .val (.int .i64 a27), .val (.int .i64 a28), .val (.int .i64 a29), .val (.bool a30)]] [] R) = (
    R
      (some
        {
          av :=
            AV.agg
              [AV.val (Value.string a0), AV.val (Value.int IntKind.i64 a1), AV.val (Value.string a2),
                AV.val
                  (Value.int IntKind.i64
                    (a3, a4, a5, a6, a7, a8, a9, a10, a11, a12, a13, a14, a15, a16, a17, a18, a19, a20, a21, a22, a23, a24,
                        a25, a26, ()).fst),
                AV.val
                  (Value.int IntKind.i64
                    (a3, a4, a5, a6, a7, a8, a9, a10, a11, a12, a13, a14, a15, a16, a17, a18, a19, a20, a21, a22, a23, a24,
                          a25, a26, ()).snd.fst),
                AV.val
                  (Value.int IntKind.i64
                    (a3, a4, a5, a6, a7, a8, a9, a10, a11, a12, a13, a14, a15, a16, a17, a18, a19, a20, a21, a22, a23, a24,
                            a25, a26, ()).snd.snd.fst),
                AV.val
                  (Value.int IntKind.i64
                    (a3, a4, a5, a6, a7, a8, a9, a10, a11, a12, a13, a14, a15, a16, a17, a18, a19, a20, a21, a22, a23, a24,
                              a25, a26, ()).snd.snd.snd.fst),
                AV.val
                  (Value.int IntKind.i64
                    (a3, a4, a5, a6, a7, a8, a9, a10, a11, a12, a13, a14, a15, a16, a17, a18, a19, a20, a21, a22, a23, a24,
                                a25, a26, ()).snd.snd.snd.snd.fst),
                AV.val
                  (Value.int IntKind.i64
                    (a3, a4, a5, a6, a7, a8, a9, a10, a11, a12, a13, a14, a15, a16, a17, a18, a19, a20, a21, a22, a23, a24,
                                  a25, a26, ()).snd.snd.snd.snd.snd.fst),
                AV.val
                  (Value.int IntKind.i64
                    (a3, a4, a5, a6, a7, a8, a9, a10, a11, a12, a13, a14, a15, a16, a17, a18, a19, a20, a21, a22, a23, a24,
                                    a25, a26, ()).snd.snd.snd.snd.snd.snd.fst),
                AV.val
                  (Value.int IntKind.i64
                    (a3, a4, a5, a6, a7, a8, a9, a10, a11, a12, a13, a14, a15, a16, a17, a18, a19, a20, a21, a22, a23, a24,
                                      a25, a26, ()).snd.snd.snd.snd.snd.snd.snd.fst),
                AV.val
                  (Value.int IntKind.i64
                    (a3, a4, a5, a6, a7, a8, a9, a10, a11, a12, a13, a14, a15, a16, a17, a18, a19, a20, a21, a22, a23, a24,
                                        a25, a26, ()).snd.snd.snd.snd.snd.snd.snd.snd.fst),
                AV.val
                  (Value.int IntKind.i64
                    (a3, a4, a5, a6, a7, a8, a9, a10, a11, a12, a13, a14, a15, a16, a17, a18, a19, a20, a21, a22, a23, a24,
                                          a25, a26, ()).snd.snd.snd.snd.snd.snd.snd.snd.snd.fst),
                AV.val
                  (Value.int IntKind.i64
                    (a3, a4, a5, a6, a7, a8, a9, a10, a11, a12, a13, a14, a15, a16, a17, a18, a19, a20, a21, a22, a23, a24,
                                            a25, a26, ()).snd.snd.snd.snd.snd.snd.snd.snd.snd.snd.fst),
                AV.val
                  (Value.int IntKind.i64
                    (a3, a4, a5, a6, a7, a8, a9, a10, a11, a12, a13, a14, a15, a16, a17, a18, a19, a20, a21, a22, a23, a24,
                                              a25, a26, ()).snd.snd.snd.snd.snd.snd.snd.snd.snd.snd.snd.fst),
                AV.val
                  (Value.int IntKind.i64
                    (a3, a4, a5, a6, a7, a8, a9, a10, a11, a12, a13, a14, a15, a16, a17, a18, a19, a20, a21, a22, a23, a24,
                                                a25, a26, ()).snd.snd.snd.snd.snd.snd.snd.snd.snd.snd.snd.snd.fst),
                AV.val
                  (Value.int IntKind.i64
                    (a3, a4, a5, a6, a7, a8, a9, a10, a11, a12, a13, a14, a15, a16, a17, a18, a19, a20, a21, a22, a23, a24,
                                                  a25, a26, ()).snd.snd.snd.snd.snd.snd.snd.snd.snd.snd.snd.snd.snd.fst),
                AV.val
                  (Value.int IntKind.i64
                    (a3, a4, a5, a6, a7, a8, a9, a10, a11, a12, a13, a14, a15, a16, a17, a18, a19, a20, a21, a22, a23, a24,
                                                    a25, a26,
                                                    ()).snd.snd.snd.snd.snd.snd.snd.snd.snd.snd.snd.snd.snd.snd.fst),
                AV.val
                  (Value.int IntKind.i64
                    (a3, a4, a5, a6, a7, a8, a9, a10, a11, a12, a13, a14, a15, a16, a17, a18, a19, a20, a21, a22, a23, a24,
                                                      a25, a26,
                                                      ()).snd.snd.snd.snd.snd.snd.snd.snd.snd.snd.snd.snd.snd.snd.snd.fst),
                AV.val
                  (Value.int IntKind.i64
                    (a3, a4, a5, a6, a7, a8, a9, a10, a11, a12, a13, a14, a15, a16, a17, a18, a19, a20, a21, a22, a23, a24,
                                                        a25, a26,
                                                        ()).snd.snd.snd.snd.snd.snd.snd.snd.snd.snd.snd.snd.snd.snd.snd.snd.fst),
                AV.val
                  (Value.int IntKind.i64
                    (a3, a4, a5, a6, a7, a8, a9, a10, a11, a12, a13, a14, a15, a16, a17, a18, a19, a20, a21, a22, a23, a24,
                                                          a25, a26,
                                                          ()).snd.snd.snd.snd.snd.snd.snd.snd.snd.snd.snd.snd.snd.snd.snd.snd.snd.fst),
                AV.val
                  (Value.int IntKind.i64
                    (a3, a4, a5, a6, a7, a8, a9, a10, a11, a12, a13, a14, a15, a16, a17, a18, a19, a20, a21, a22, a23, a24,
                                                            a25, a26,
                                                            ()).snd.snd.snd.snd.snd.snd.snd.snd.snd.snd.snd.snd.snd.snd.snd.snd.snd.snd.fst),
                AV.val
                  (Value.int IntKind.i64
                    (a3, a4, a5, a6, a7, a8, a9, a10, a11, a12, a13, a14, a15, a16, a17, a18, a19, a20, a21, a22, a23, a24,
                                                              a25, a26,
                                                              ()).snd.snd.snd.snd.snd.snd.snd.snd.snd.snd.snd.snd.snd.snd.snd.snd.snd.snd.snd.fst),
                AV.val
                  (Value.int IntKind.i64
                    (a3, a4, a5, a6, a7, a8, a9, a10, a11, a12, a13, a14, a15, a16, a17, a18, a19, a20, a21, a22, a23, a24,
                                                                a25, a26,
                                                                ()).snd.snd.snd.snd.snd.snd.snd.snd.snd.snd.snd.snd.snd.snd.snd.snd.snd.snd.snd.snd.fst),
                AV.val
                  (Value.int IntKind.i64
                    (a3, a4, a5, a6, a7, a8, a9, a10, a11, a12, a13, a14, a15, a16, a17, a18, a19, a20, a21, a22, a23, a24,
                                                                  a25, a26,
                                                                  ()).snd.snd.snd.snd.snd.snd.snd.snd.snd.snd.snd.snd.snd.snd.snd.snd.snd.snd.snd.snd.snd.fst),
                AV.val
                  (Value.int IntKind.i64
                    (a3, a4, a5, a6, a7, a8, a9, a10, a11, a12, a13, a14, a15, a16, a17, a18, a19, a20, a21, a22, a23, a24,
                                                                    a25, a26,
                                                                    ()).snd.snd.snd.snd.snd.snd.snd.snd.snd.snd.snd.snd.snd.snd.snd.snd.snd.snd.snd.snd.snd.snd.fst),
                AV.val
                  (Value.int IntKind.i64
                    (a3, a4, a5, a6, a7, a8, a9, a10, a11, a12, a13, a14, a15, a16, a17, a18, a19, a20, a21, a22, a23, a24,
                                                                      a25, a26,
                                                                      ()).snd.snd.snd.snd.snd.snd.snd.snd.snd.snd.snd.snd.snd.snd.snd.snd.snd.snd.snd.snd.snd.snd.snd.fst),
                AV.val (Value.int IntKind.i64 a27), AV.val (Value.int IntKind.i64 a28), AV.val (Value.int IntKind.i64 a29),
                AV.val (Value.bool a30)],
          obs := [], outs := [] })) := by kernel_rfl
theorem h141 : G1Ok Try.prog 141 g141 := by
  intro args obs k h
  unfold g141 at h
  split at h
  · rename_i k us
    split at h
    rotate_left
    · exact h.elim
    rename_i a ha
    obtain rfl := elemOf_inv ha
    obtain ⟨a0, a1, a2, a3, a4, a5, a6, a7, a8, a9, a10, a11, a12, a13, a14, a15, a16, a17, a18, a19, a20, a21, a22, a23, a24, a25, a26, a27, a28, a29, a30, ⟨⟩⟩ := a
    refine ⟨_, ctr_fn ok0 hg141 Try.func141 (by kernel_rfl) (by kernel_rfl) (by kernel_rfl) fun C => ?_, h⟩
    show bodyP E0 G141 _ Try.f141 [.agg [.val (.string a0), .val (.int .i64 a1), .val (.string a2), .val (.int .i64 a3), .val (.int .i64 a4), .val (.int .i64 a5), .val (.int .i64 a6), .val (.int .i64 a7), .val (.int .i64 a8), .val (.int .i64 a9), .val (.int .i64 a10), .val (.int .i64 a11), .val (.int .i64 a12), .val (.int .i64 a13), .val (.int .i64 a14), .val (.int .i64 a15), .val (.int .i64 a16), .val (.int .i64 a17), .val (.int .i64 a18), .val (.int .i64 a19), .val (.int .i64 a20), .val (.int .i64 a21), .val (.int .i64 a22), .val (.int .i64 a23), .val (.int .i64 a24), .val (.int .i64 a25), .val (.int .i64 a26), .val (.int .i64 a27), .val (.int .i64 a28), .val (.int .i64 a29), .val (.bool a30)]] [] _
    rw [e141]
    rfl
  · exact h.elim
def g109 : G1
  | [.rsl cxs xs0], [], k => match castE kc cxs xs0 with
    | some xs => br (decide (xs.length ≤ 1048576)) (k ⟨.ows 0, [.row kc xs], []⟩) False
    | _ => False
  | _, _, _ => False
noncomputable def E109 : Env := E0.of Try.f109
noncomputable def G109 : Gk := gk [(141, g141)]
noncomputable def lp109 (n : Nat) : Code := (loopOf n (codeOf Try.f109)).getD .skip
noncomputable def ct109 (L : Lp) (R : Option Res → Prop) (n : Nat) : Kt := contOf E109 G109 L n (codeOf Try.f109) (endK E109 Try.f109.results.toList R)
noncomputable def rk109 (L : Lp) (R : Option Res → Prop) (n : Nat) (N : St → Prop) : Kt := rk (jof E109 (lp109 n)) N (ct109 L R n)
noncomputable def LOOP109 (L : Lp) (R : Option Res → Prop) (n : Nat) (st : St) : Prop := L (lp109 n) st (ct109 L R n)
theorem hg109 : HG Try.prog G109 := (hg_cons h141 hg_nil)
theorem okf109 : Ok Try.prog E109 := ok0.of Try.f109
theorem e109 (L : Lp) (R : Option Res → Prop) (xs : List (Elem kc)) : (bodyP E0 G109 L Try.f109 [.rsl kc xs] [] R) = (
    br
      (decide
        (0 ≤ (↑xs.length : Int) ∧ (↑xs.length : Int) ≤ (↑xs.length : Int) ∧ 264 * (↑xs.length : Int) ≤ 281474976710656))
      (LOOP109 L R 3
        {
          tm :=
            [AV.rsl
                [CK.str, CK.int IntKind.i64, CK.str, CK.int IntKind.i64, CK.int IntKind.i64, CK.int IntKind.i64,
                  CK.int IntKind.i64, CK.int IntKind.i64, CK.int IntKind.i64, CK.int IntKind.i64, CK.int IntKind.i64,
                  CK.int IntKind.i64, CK.int IntKind.i64, CK.int IntKind.i64, CK.int IntKind.i64, CK.int IntKind.i64,
                  CK.int IntKind.i64, CK.int IntKind.i64, CK.int IntKind.i64, CK.int IntKind.i64, CK.int IntKind.i64,
                  CK.int IntKind.i64, CK.int IntKind.i64, CK.int IntKind.i64, CK.int IntKind.i64, CK.int IntKind.i64,
                  CK.int IntKind.i64, CK.int IntKind.i64, CK.int IntKind.i64, CK.int IntKind.i64, CK.bool]
                xs,
              AV.val (Value.tuple #[]), AV.ows 0, AV.ows 1, AV.val (Value.int IntKind.i64 0),
              AV.rsl
                [CK.str, CK.int IntKind.i64, CK.str, CK.int IntKind.i64, CK.int IntKind.i64, CK.int IntKind.i64,
                  CK.int IntKind.i64, CK.int IntKind.i64, CK.int IntKind.i64, CK.int IntKind.i64, CK.int IntKind.i64,
                  CK.int IntKind.i64, CK.int IntKind.i64, CK.int IntKind.i64, CK.int IntKind.i64, CK.int IntKind.i64,
                  CK.int IntKind.i64, CK.int IntKind.i64, CK.int IntKind.i64, CK.int IntKind.i64, CK.int IntKind.i64,
                  CK.int IntKind.i64, CK.int IntKind.i64, CK.int IntKind.i64, CK.int IntKind.i64, CK.int IntKind.i64,
                  CK.int IntKind.i64, CK.int IntKind.i64, CK.int IntKind.i64, CK.int IntKind.i64, CK.bool]
                xs,
              AV.val (Value.int IntKind.i64 (↑xs.length : Int)), AV.ows 1, AV.junk, AV.junk, AV.junk, AV.junk, AV.junk,
              AV.junk, AV.junk, AV.junk, AV.junk, AV.junk, AV.junk, AV.junk, AV.junk, AV.junk, AV.val (Value.tuple #[])],
          ob :=
            [(0,
                AO.row
                  [CK.str, CK.int IntKind.i64, CK.str, CK.int IntKind.i64, CK.int IntKind.i64, CK.int IntKind.i64,
                    CK.int IntKind.i64, CK.int IntKind.i64, CK.int IntKind.i64, CK.int IntKind.i64, CK.int IntKind.i64,
                    CK.int IntKind.i64, CK.int IntKind.i64, CK.int IntKind.i64, CK.int IntKind.i64, CK.int IntKind.i64,
                    CK.int IntKind.i64, CK.int IntKind.i64, CK.int IntKind.i64, CK.int IntKind.i64, CK.int IntKind.i64,
                    CK.int IntKind.i64, CK.int IntKind.i64, CK.int IntKind.i64, CK.int IntKind.i64, CK.int IntKind.i64,
                    CK.int IntKind.i64, CK.int IntKind.i64, CK.int IntKind.i64, CK.int IntKind.i64, CK.bool]
                  []),
              (1,
                AO.row
                  [CK.str, CK.int IntKind.i64, CK.str, CK.int IntKind.i64, CK.int IntKind.i64, CK.int IntKind.i64,
                    CK.int IntKind.i64, CK.int IntKind.i64, CK.int IntKind.i64, CK.int IntKind.i64, CK.int IntKind.i64,
                    CK.int IntKind.i64, CK.int IntKind.i64, CK.int IntKind.i64, CK.int IntKind.i64, CK.int IntKind.i64,
                    CK.int IntKind.i64, CK.int IntKind.i64, CK.int IntKind.i64, CK.int IntKind.i64, CK.int IntKind.i64,
                    CK.int IntKind.i64, CK.int IntKind.i64, CK.int IntKind.i64, CK.int IntKind.i64, CK.int IntKind.i64,
                    CK.int IntKind.i64, CK.int IntKind.i64, CK.int IntKind.i64, CK.int IntKind.i64, CK.bool]
                  (List.replicate (↑xs.length : Int).toNat
                    (edflt
                      [CK.str, CK.int IntKind.i64, CK.str, CK.int IntKind.i64, CK.int IntKind.i64, CK.int IntKind.i64,
                        CK.int IntKind.i64, CK.int IntKind.i64, CK.int IntKind.i64, CK.int IntKind.i64, CK.int IntKind.i64,
                        CK.int IntKind.i64, CK.int IntKind.i64, CK.int IntKind.i64, CK.int IntKind.i64, CK.int IntKind.i64,
                        CK.int IntKind.i64, CK.int IntKind.i64, CK.int IntKind.i64, CK.int IntKind.i64, CK.int IntKind.i64,
                        CK.int IntKind.i64, CK.int IntKind.i64, CK.int IntKind.i64, CK.int IntKind.i64, CK.int IntKind.i64,
                        CK.int IntKind.i64, CK.int IntKind.i64, CK.int IntKind.i64, CK.int IntKind.i64, CK.bool])))],
          nx := 1000000, ps := [] })
      False) := by kernel_rfl
def st109 (xs : List (Elem kc)) (i : Int) (ys : List (Elem kc)) : St :=
  ⟨[AV.rsl [CK.str, CK.int IntKind.i64, CK.str, CK.int IntKind.i64, CK.int IntKind.i64, CK.int IntKind.i64, CK.int IntKind.i64, CK.int IntKind.i64, CK.int IntKind.i64, CK.int IntKind.i64, CK.int IntKind.i64, CK.int IntKind.i64, CK.int IntKind.i64, CK.int IntKind.i64, CK.int IntKind.i64, CK.int IntKind.i64, CK.int IntKind.i64, CK.int IntKind.i64, CK.int IntKind.i64, CK.int IntKind.i64, CK.int IntKind.i64, CK.int IntKind.i64, CK.int IntKind.i64, CK.int IntKind.i64, CK.int IntKind.i64, CK.int IntKind.i64, CK.int IntKind.i64, CK.int IntKind.i64, CK.int IntKind.i64, CK.int IntKind.i64, CK.bool] xs, AV.val (Value.tuple #[]), AV.ows 0, AV.ows 1, .val (.int .i64 i), AV.rsl [CK.str, CK.int IntKind.i64, CK.str, CK.int IntKind.i64, CK.int IntKind.i64, CK.int IntKind.i64, CK.int IntKind.i64, CK.int IntKind.i64, CK.int IntKind.i64, CK.int IntKind.i64, CK.int IntKind.i64, CK.int IntKind.i64, CK.int IntKind.i64, CK.int IntKind.i64, CK.int IntKind.i64, CK.int IntKind.i64, CK.int IntKind.i64, CK.int IntKind.i64, CK.int IntKind.i64, CK.int IntKind.i64, CK.int IntKind.i64, CK.int IntKind.i64, CK.int IntKind.i64, CK.int IntKind.i64, CK.int IntKind.i64, CK.int IntKind.i64, CK.int IntKind.i64, CK.int IntKind.i64, CK.int IntKind.i64, CK.int IntKind.i64, CK.bool] xs, AV.val (Value.int IntKind.i64 (↑xs.length : Int)), AV.ows 1, AV.junk, AV.junk, AV.junk, AV.junk, AV.junk, AV.junk, AV.junk, AV.junk, AV.junk, AV.junk, AV.junk, AV.junk, AV.junk, AV.junk, AV.val (Value.tuple #[])],
    [(0, AO.row [CK.str, CK.int IntKind.i64, CK.str, CK.int IntKind.i64, CK.int IntKind.i64, CK.int IntKind.i64, CK.int IntKind.i64, CK.int IntKind.i64, CK.int IntKind.i64, CK.int IntKind.i64, CK.int IntKind.i64, CK.int IntKind.i64, CK.int IntKind.i64, CK.int IntKind.i64, CK.int IntKind.i64, CK.int IntKind.i64, CK.int IntKind.i64, CK.int IntKind.i64, CK.int IntKind.i64, CK.int IntKind.i64, CK.int IntKind.i64, CK.int IntKind.i64, CK.int IntKind.i64, CK.int IntKind.i64, CK.int IntKind.i64, CK.int IntKind.i64, CK.int IntKind.i64, CK.int IntKind.i64, CK.int IntKind.i64, CK.int IntKind.i64, CK.bool] []), (1, .row kc ys)], 1000000, []⟩
theorem b109 (L : Lp) (R : Option Res → Prop) (N : St → Prop) (xs : List (Elem kc)) (i : Int) (ys : List (Elem kc)) : (evP E109 G109 L (lp109 3) (st109 xs i ys) (rk109 L R 3 N)) = (
    br (decide (i < (↑xs.length : Int)))
      (br (decide (0 ≤ i ∧ i < (↑xs.length : Int)))
        (br (decide (0 ≤ i ∧ i < (↑ys.length : Int)))
          (N
            {
              tm :=
                [AV.rsl
                    [CK.str, CK.int IntKind.i64, CK.str, CK.int IntKind.i64, CK.int IntKind.i64, CK.int IntKind.i64,
                      CK.int IntKind.i64, CK.int IntKind.i64, CK.int IntKind.i64, CK.int IntKind.i64, CK.int IntKind.i64,
                      CK.int IntKind.i64, CK.int IntKind.i64, CK.int IntKind.i64, CK.int IntKind.i64, CK.int IntKind.i64,
                      CK.int IntKind.i64, CK.int IntKind.i64, CK.int IntKind.i64, CK.int IntKind.i64, CK.int IntKind.i64,
                      CK.int IntKind.i64, CK.int IntKind.i64, CK.int IntKind.i64, CK.int IntKind.i64, CK.int IntKind.i64,
                      CK.int IntKind.i64, CK.int IntKind.i64, CK.int IntKind.i64, CK.int IntKind.i64, CK.bool]
                    xs,
                  AV.val (Value.tuple #[]), AV.ows 0, AV.ows 1, AV.val (Value.int IntKind.i64 (IntKind.i64.wrap (i + 1))),
                  AV.rsl
                    [CK.str, CK.int IntKind.i64, CK.str, CK.int IntKind.i64, CK.int IntKind.i64, CK.int IntKind.i64,
                      CK.int IntKind.i64, CK.int IntKind.i64, CK.int IntKind.i64, CK.int IntKind.i64, CK.int IntKind.i64,
                      CK.int IntKind.i64, CK.int IntKind.i64, CK.int IntKind.i64, CK.int IntKind.i64, CK.int IntKind.i64,
                      CK.int IntKind.i64, CK.int IntKind.i64, CK.int IntKind.i64, CK.int IntKind.i64, CK.int IntKind.i64,
                      CK.int IntKind.i64, CK.int IntKind.i64, CK.int IntKind.i64, CK.int IntKind.i64, CK.int IntKind.i64,
                      CK.int IntKind.i64, CK.int IntKind.i64, CK.int IntKind.i64, CK.int IntKind.i64, CK.bool]
                    xs,
                  AV.val (Value.int IntKind.i64 (↑xs.length : Int)), AV.ows 1, AV.junk, AV.junk, AV.junk, AV.junk, AV.junk,
                  AV.junk, AV.junk, AV.junk, AV.junk, AV.junk, AV.junk, AV.junk, AV.junk, AV.junk,
                  AV.val (Value.tuple #[])],
              ob :=
                [(0,
                    AO.row
                      [CK.str, CK.int IntKind.i64, CK.str, CK.int IntKind.i64, CK.int IntKind.i64, CK.int IntKind.i64,
                        CK.int IntKind.i64, CK.int IntKind.i64, CK.int IntKind.i64, CK.int IntKind.i64, CK.int IntKind.i64,
                        CK.int IntKind.i64, CK.int IntKind.i64, CK.int IntKind.i64, CK.int IntKind.i64, CK.int IntKind.i64,
                        CK.int IntKind.i64, CK.int IntKind.i64, CK.int IntKind.i64, CK.int IntKind.i64, CK.int IntKind.i64,
                        CK.int IntKind.i64, CK.int IntKind.i64, CK.int IntKind.i64, CK.int IntKind.i64, CK.int IntKind.i64,
                        CK.int IntKind.i64, CK.int IntKind.i64, CK.int IntKind.i64, CK.int IntKind.i64, CK.bool]
                      []),
                  (1,
                    AO.row
                      [CK.str, CK.int IntKind.i64, CK.str, CK.int IntKind.i64, CK.int IntKind.i64, CK.int IntKind.i64,
                        CK.int IntKind.i64, CK.int IntKind.i64, CK.int IntKind.i64, CK.int IntKind.i64, CK.int IntKind.i64,
                        CK.int IntKind.i64, CK.int IntKind.i64, CK.int IntKind.i64, CK.int IntKind.i64, CK.int IntKind.i64,
                        CK.int IntKind.i64, CK.int IntKind.i64, CK.int IntKind.i64, CK.int IntKind.i64, CK.int IntKind.i64,
                        CK.int IntKind.i64, CK.int IntKind.i64, CK.int IntKind.i64, CK.int IntKind.i64, CK.int IntKind.i64,
                        CK.int IntKind.i64, CK.int IntKind.i64, CK.int IntKind.i64, CK.int IntKind.i64, CK.bool]
                      (ys.set i.toNat
                        (xs.getD i.toNat
                          (edflt
                            [CK.str, CK.int IntKind.i64, CK.str, CK.int IntKind.i64, CK.int IntKind.i64, CK.int IntKind.i64,
                              CK.int IntKind.i64, CK.int IntKind.i64, CK.int IntKind.i64, CK.int IntKind.i64,
                              CK.int IntKind.i64, CK.int IntKind.i64, CK.int IntKind.i64, CK.int IntKind.i64,
                              CK.int IntKind.i64, CK.int IntKind.i64, CK.int IntKind.i64, CK.int IntKind.i64,
                              CK.int IntKind.i64, CK.int IntKind.i64, CK.int IntKind.i64, CK.int IntKind.i64,
                              CK.int IntKind.i64, CK.int IntKind.i64, CK.int IntKind.i64, CK.int IntKind.i64,
                              CK.int IntKind.i64, CK.int IntKind.i64, CK.int IntKind.i64, CK.int IntKind.i64, CK.bool]))))],
              nx := 1000000, ps := [] })
          False)
        False)
      (R
        (some
          { av := AV.ows 0,
            obs :=
              [AO.row
                  [CK.str, CK.int IntKind.i64, CK.str, CK.int IntKind.i64, CK.int IntKind.i64, CK.int IntKind.i64,
                    CK.int IntKind.i64, CK.int IntKind.i64, CK.int IntKind.i64, CK.int IntKind.i64, CK.int IntKind.i64,
                    CK.int IntKind.i64, CK.int IntKind.i64, CK.int IntKind.i64, CK.int IntKind.i64, CK.int IntKind.i64,
                    CK.int IntKind.i64, CK.int IntKind.i64, CK.int IntKind.i64, CK.int IntKind.i64, CK.int IntKind.i64,
                    CK.int IntKind.i64, CK.int IntKind.i64, CK.int IntKind.i64, CK.int IntKind.i64, CK.int IntKind.i64,
                    CK.int IntKind.i64, CK.int IntKind.i64, CK.int IntKind.i64, CK.int IntKind.i64, CK.bool]
                  ys],
            outs := [] }))) := by kernel_rfl
theorem h109 : G1Ok Try.prog 109 g109 := by
  intro args obs k h
  unfold g109 at h
  split at h
  · rename_i k cxs xs0
    split at h
    rotate_left
    · exact h.elim
    rename_i xs hxs
    cases castE_inv hxs
    obtain ⟨hlen, h⟩ := brd h
    refine ⟨_, ctr_fn ok0 hg109 Try.func109 (by kernel_rfl) (by kernel_rfl) (by kernel_rfl) fun C => ?_, h⟩
    rw [e109]
    refine br_yes ⟨by omega, by omega, by omega⟩ ?_
    exact loopUp okf109 hg109 (fun i ys => st109 xs i ys) xs.length (Cp xs) (fun N i ys hi hc next => by
      show evP E109 G109 _ (lp109 3) (st109 xs i ys) (rk109 _ _ 3 _)
      rw [b109, wrap_id (n := (i : Int) + 1) (by omega) (by omega), Int.toNat_natCast]
      have hl := hc.len
      refine br_dec (fun h2 => ?_) (fun h2 => ?_)
      · refine br_yes ⟨by omega, h2⟩ (br_yes ⟨by omega, by omega⟩ ?_)
        exact next (by omega) _ (hc.next (by omega))
      · show _ = _
        rw [hc.done (by omega)]) _ (Cp.zero xs _)
  · exact h.elim
def g110 : G1
  | [.rsl [.int .i64, .int .i64, .int .i64] xs], [], k => br (decide (xs.length ≤ 1048576)) (k ⟨.ows 0, [.row k3 xs], []⟩) False
  | _, _, _ => False
noncomputable def E110 : Env := E0.of Try.f110
noncomputable def G110 : Gk := gk [(19, g19)]
noncomputable def lp110 (n : Nat) : Code := (loopOf n (codeOf Try.f110)).getD .skip
noncomputable def ct110 (L : Lp) (R : Option Res → Prop) (n : Nat) : Kt := contOf E110 G110 L n (codeOf Try.f110) (endK E110 Try.f110.results.toList R)
noncomputable def rk110 (L : Lp) (R : Option Res → Prop) (n : Nat) (N : St → Prop) : Kt := rk (jof E110 (lp110 n)) N (ct110 L R n)
noncomputable def LOOP110 (L : Lp) (R : Option Res → Prop) (n : Nat) (st : St) : Prop := L (lp110 n) st (ct110 L R n)
theorem hg110 : HG Try.prog G110 := (hg_cons h19 hg_nil)
theorem okf110 : Ok Try.prog E110 := ok0.of Try.f110
theorem e110 (L : Lp) (R : Option Res → Prop) (xs : List (Elem k3)) : (bodyP E0 G110 L Try.f110 [.rsl k3 xs] [] R) = (
    br
      (decide
        (0 ≤ (↑xs.length : Int) ∧ (↑xs.length : Int) ≤ (↑xs.length : Int) ∧ 24 * (↑xs.length : Int) ≤ 281474976710656))
      (LOOP110 L R 3
        {
          tm :=
            [AV.rsl [CK.int IntKind.i64, CK.int IntKind.i64, CK.int IntKind.i64] xs, AV.val (Value.tuple #[]), AV.ows 0,
              AV.ows 1, AV.val (Value.int IntKind.i64 0),
              AV.rsl [CK.int IntKind.i64, CK.int IntKind.i64, CK.int IntKind.i64] xs,
              AV.val (Value.int IntKind.i64 (↑xs.length : Int)), AV.ows 1, AV.junk, AV.junk, AV.junk, AV.junk, AV.junk,
              AV.junk, AV.junk, AV.junk, AV.junk, AV.junk, AV.junk, AV.junk, AV.junk, AV.junk, AV.val (Value.tuple #[])],
          ob :=
            [(0, AO.row [CK.int IntKind.i64, CK.int IntKind.i64, CK.int IntKind.i64] []),
              (1,
                AO.row [CK.int IntKind.i64, CK.int IntKind.i64, CK.int IntKind.i64]
                  (List.replicate (↑xs.length : Int).toNat
                    (edflt [CK.int IntKind.i64, CK.int IntKind.i64, CK.int IntKind.i64])))],
          nx := 1000000, ps := [] })
      False) := by kernel_rfl
def st110 (xs : List (Elem k3)) (i : Int) (ys : List (Elem k3)) : St :=
  ⟨[AV.rsl [CK.int IntKind.i64, CK.int IntKind.i64, CK.int IntKind.i64] xs, AV.val (Value.tuple #[]), AV.ows 0, AV.ows 1, .val (.int .i64 i), AV.rsl [CK.int IntKind.i64, CK.int IntKind.i64, CK.int IntKind.i64] xs, AV.val (Value.int IntKind.i64 (↑xs.length : Int)), AV.ows 1, AV.junk, AV.junk, AV.junk, AV.junk, AV.junk, AV.junk, AV.junk, AV.junk, AV.junk, AV.junk, AV.junk, AV.junk, AV.junk, AV.junk, AV.val (Value.tuple #[])],
    [(0, AO.row [CK.int IntKind.i64, CK.int IntKind.i64, CK.int IntKind.i64] []), (1, .row k3 ys)], 1000000, []⟩
theorem b110 (L : Lp) (R : Option Res → Prop) (N : St → Prop) (xs : List (Elem k3)) (i : Int) (ys : List (Elem k3)) : (evP E110 G110 L (lp110 3) (st110 xs i ys) (rk110 L R 3 N)) = (
    br (decide (i < (↑xs.length : Int)))
      (br (decide (0 ≤ i ∧ i < (↑xs.length : Int)))
        (br (decide (0 ≤ i ∧ i < (↑ys.length : Int)))
          (N
            {
              tm :=
                [AV.rsl [CK.int IntKind.i64, CK.int IntKind.i64, CK.int IntKind.i64] xs, AV.val (Value.tuple #[]), AV.ows 0,
                  AV.ows 1, AV.val (Value.int IntKind.i64 (IntKind.i64.wrap (i + 1))),
                  AV.rsl [CK.int IntKind.i64, CK.int IntKind.i64, CK.int IntKind.i64] xs,
                  AV.val (Value.int IntKind.i64 (↑xs.length : Int)), AV.ows 1, AV.junk, AV.junk, AV.junk, AV.junk, AV.junk,
                  AV.junk, AV.junk, AV.junk, AV.junk, AV.junk, AV.junk, AV.junk, AV.junk, AV.junk,
                  AV.val (Value.tuple #[])],
              ob :=
                [(0, AO.row [CK.int IntKind.i64, CK.int IntKind.i64, CK.int IntKind.i64] []),
                  (1,
                    AO.row [CK.int IntKind.i64, CK.int IntKind.i64, CK.int IntKind.i64]
                      (ys.set i.toNat
                        (xs.getD i.toNat (edflt [CK.int IntKind.i64, CK.int IntKind.i64, CK.int IntKind.i64]))))],
              nx := 1000000, ps := [] })
          False)
        False)
      (R
        (some
          { av := AV.ows 0, obs := [AO.row [CK.int IntKind.i64, CK.int IntKind.i64, CK.int IntKind.i64] ys], outs := [] }))) := by kernel_rfl
theorem h110 : G1Ok Try.prog 110 g110 := by
  intro args obs k h
  unfold g110 at h
  split at h
  · rename_i k xs
    obtain ⟨hlen, h⟩ := brd h
    refine ⟨_, ctr_fn ok0 hg110 Try.func110 (by kernel_rfl) (by kernel_rfl) (by kernel_rfl) fun C => ?_, h⟩
    rw [e110]
    refine br_yes ⟨by omega, by omega, by omega⟩ ?_
    exact loopUp okf110 hg110 (fun i ys => st110 xs i ys) xs.length (Cp xs) (fun N i ys hi hc next => by
      show evP E110 G110 _ (lp110 3) (st110 xs i ys) (rk110 _ _ 3 _)
      rw [b110, wrap_id (n := (i : Int) + 1) (by omega) (by omega), Int.toNat_natCast]
      have hl := hc.len
      refine br_dec (fun h2 => ?_) (fun h2 => ?_)
      · refine br_yes ⟨by omega, h2⟩ (br_yes ⟨by omega, by omega⟩ ?_)
        exact next (by omega) _ (hc.next (by omega))
      · show _ = _
        rw [hc.done (by omega)]) _ (Cp.zero xs _)
  · exact h.elim
def g111 : G1
  | [.rsl [.int .i64] xs], [], k => br (decide (xs.length ≤ 1048576)) (k ⟨.ows 0, [.row ki xs], []⟩) False
  | _, _, _ => False
noncomputable def E111 : Env := E0.of Try.f111
noncomputable def G111 : Gk := gk []
noncomputable def lp111 (n : Nat) : Code := (loopOf n (codeOf Try.f111)).getD .skip
noncomputable def ct111 (L : Lp) (R : Option Res → Prop) (n : Nat) : Kt := contOf E111 G111 L n (codeOf Try.f111) (endK E111 Try.f111.results.toList R)
noncomputable def rk111 (L : Lp) (R : Option Res → Prop) (n : Nat) (N : St → Prop) : Kt := rk (jof E111 (lp111 n)) N (ct111 L R n)
noncomputable def LOOP111 (L : Lp) (R : Option Res → Prop) (n : Nat) (st : St) : Prop := L (lp111 n) st (ct111 L R n)
theorem hg111 : HG Try.prog G111 := hg_nil
theorem okf111 : Ok Try.prog E111 := ok0.of Try.f111
theorem e111 (L : Lp) (R : Option Res → Prop) (xs : List (Elem ki)) : (bodyP E0 G111 L Try.f111 [.rsl ki xs] [] R) = (
    br
      (decide (0 ≤ (↑xs.length : Int) ∧ (↑xs.length : Int) ≤ (↑xs.length : Int) ∧ 8 * (↑xs.length : Int) ≤ 281474976710656))
      (LOOP111 L R 3
        {
          tm :=
            [AV.rsl [CK.int IntKind.i64] xs, AV.val (Value.tuple #[]), AV.ows 0, AV.ows 1, AV.val (Value.int IntKind.i64 0),
              AV.rsl [CK.int IntKind.i64] xs, AV.val (Value.int IntKind.i64 (↑xs.length : Int)), AV.ows 1, AV.junk, AV.junk,
              AV.junk, AV.junk, AV.junk, AV.junk, AV.junk, AV.junk, AV.junk, AV.junk, AV.junk, AV.junk, AV.junk,
              AV.val (Value.tuple #[])],
          ob :=
            [(0, AO.row [CK.int IntKind.i64] []),
              (1, AO.row [CK.int IntKind.i64] (List.replicate (↑xs.length : Int).toNat (edflt [CK.int IntKind.i64])))],
          nx := 1000000, ps := [] })
      False) := by kernel_rfl
def st111 (xs : List (Elem ki)) (i : Int) (ys : List (Elem ki)) : St :=
  ⟨[AV.rsl [CK.int IntKind.i64] xs, AV.val (Value.tuple #[]), AV.ows 0, AV.ows 1, .val (.int .i64 i), AV.rsl [CK.int IntKind.i64] xs, AV.val (Value.int IntKind.i64 (↑xs.length : Int)), AV.ows 1, AV.junk, AV.junk, AV.junk, AV.junk, AV.junk, AV.junk, AV.junk, AV.junk, AV.junk, AV.junk, AV.junk, AV.junk, AV.junk, AV.val (Value.tuple #[])],
    [(0, AO.row [CK.int IntKind.i64] []), (1, .row ki ys)], 1000000, []⟩
theorem b111 (L : Lp) (R : Option Res → Prop) (N : St → Prop) (xs : List (Elem ki)) (i : Int) (ys : List (Elem ki)) : (evP E111 G111 L (lp111 3) (st111 xs i ys) (rk111 L R 3 N)) = (
    br (decide (i < (↑xs.length : Int)))
      (br (decide (0 ≤ i ∧ i < (↑xs.length : Int)))
        (br (decide (0 ≤ i ∧ i < (↑ys.length : Int)))
          (N
            {
              tm :=
                [AV.rsl [CK.int IntKind.i64] xs, AV.val (Value.tuple #[]), AV.ows 0, AV.ows 1,
                  AV.val (Value.int IntKind.i64 (IntKind.i64.wrap (i + 1))), AV.rsl [CK.int IntKind.i64] xs,
                  AV.val (Value.int IntKind.i64 (↑xs.length : Int)), AV.ows 1, AV.junk, AV.junk, AV.junk, AV.junk, AV.junk,
                  AV.junk, AV.junk, AV.junk, AV.junk, AV.junk, AV.junk, AV.junk, AV.junk, AV.val (Value.tuple #[])],
              ob :=
                [(0, AO.row [CK.int IntKind.i64] []),
                  (1, AO.row [CK.int IntKind.i64] (ys.set i.toNat (xs.getD i.toNat (edflt [CK.int IntKind.i64]))))],
              nx := 1000000, ps := [] })
          False)
        False)
      (R (some { av := AV.ows 0, obs := [AO.row [CK.int IntKind.i64] ys], outs := [] }))) := by kernel_rfl
theorem h111 : G1Ok Try.prog 111 g111 := by
  intro args obs k h
  unfold g111 at h
  split at h
  · rename_i k xs
    obtain ⟨hlen, h⟩ := brd h
    refine ⟨_, ctr_fn ok0 hg111 Try.func111 (by kernel_rfl) (by kernel_rfl) (by kernel_rfl) fun C => ?_, h⟩
    rw [e111]
    refine br_yes ⟨by omega, by omega, by omega⟩ ?_
    exact loopUp okf111 hg111 (fun i ys => st111 xs i ys) xs.length (Cp xs) (fun N i ys hi hc next => by
      show evP E111 G111 _ (lp111 3) (st111 xs i ys) (rk111 _ _ 3 _)
      rw [b111, wrap_id (n := (i : Int) + 1) (by omega) (by omega), Int.toNat_natCast]
      have hl := hc.len
      refine br_dec (fun h2 => ?_) (fun h2 => ?_)
      · refine br_yes ⟨by omega, h2⟩ (br_yes ⟨by omega, by omega⟩ ?_)
        exact next (by omega) _ (hc.next (by omega))
      · show _ = _
        rw [hc.done (by omega)]) _ (Cp.zero xs _)
  · exact h.elim
end Go.Proofs.Ytjhjhkphcemcmaa.Ev
