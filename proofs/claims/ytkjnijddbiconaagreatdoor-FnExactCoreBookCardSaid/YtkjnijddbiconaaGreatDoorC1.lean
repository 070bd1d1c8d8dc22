/- Contracts for cores: sizes, copies. -/
import Derived.Test.YtkjnijddbiconaaGreatDoorD5
import Derived.Test.YtkjnijddbiconaaGreatDoorD12
namespace Go.Proofs.YtkjnijddbiconaaGreatDoor.Ev
open Go
set_option linter.unusedVariables false
set_option linter.unusedSimpArgs false
set_option maxRecDepth 100000
abbrev kc : List CK := [.str, .int .i64, .str, .int .i64, .int .i64, .int .i64, .int .i64, .int .i64, .int .i64, .int .i64, .int .i64, .int .i64, .int .i64, .int .i64, .int .i64, .int .i64, .int .i64, .int .i64, .int .i64, .int .i64, .int .i64, .int .i64, .int .i64, .int .i64, .int .i64, .int .i64, .int .i64, .int .i64, .int .i64, .int .i64, .bool]

def szC (e : Elem kc) : Nat := e.1.size + e.2.2.1.size
def inC (e : Elem kc) : Bool := inS e.1 && inS e.2.2.1
def g51 : G1
  | [.rsl [.int .i64, .int .i64, .int .i64] xs, .val (.int .i64 l)], [], k => br (decide (xs.length ≤ 9223372036854775807) && inL l) (k ⟨.val (.int .i64 (szR l xs.length)), [], []⟩) False
  | _, _, _ => False
noncomputable def E51 : Env := E0.of Tryz.f51
noncomputable def G51 : Gk := gk []
noncomputable def lp51 (n : Nat) : Code := (loopOf n (codeOf Tryz.f51)).getD .skip
noncomputable def ct51 (L : Lp) (R : Option Res → Prop) (n : Nat) : Kt := contOf E51 G51 L n (codeOf Tryz.f51) (endK E51 Tryz.f51.results.toList R)
noncomputable def rk51 (L : Lp) (R : Option Res → Prop) (n : Nat) (N : St → Prop) : Kt := rk (jof E51 (lp51 n)) N (ct51 L R n)
noncomputable def rkn51 (L : Lp) (R : Option Res → Prop) (n : Nat) (N : St → Prop) (m : Nat) (N2 : St → Prop) : Kt := rk (jof E51 (lp51 m)) N2 (contOf E51 G51 L m (lp51 n) (rk51 L R n N))
noncomputable def LOOPN51 (L : Lp) (R : Option Res → Prop) (n : Nat) (N : St → Prop) (m : Nat) (st : St) : Prop := L (lp51 m) st (contOf E51 G51 L m (lp51 n) (rk51 L R n N))
noncomputable def LOOP51 (L : Lp) (R : Option Res → Prop) (n : Nat) (st : St) : Prop := L (lp51 n) st (ct51 L R n)
theorem hg51 : HG Tryz.prog G51 := hg_nil
theorem okf51 : Ok Tryz.prog E51 := ok0.of Tryz.f51
theorem e51 (L : Lp) (R : Option Res → Prop) (xs : List (Elem k3)) (l : Int) : (bodyP E0 G51 L Tryz.f51 [.rsl k3 xs, .val (.int .i64 l)] [] R) = (
    br (decide (IntKind.i64.wrap (l - (↑xs.length : Int)) < 0)) (R (some { av := vI (-1), obs := [], outs := [] })) (R (some { av := vI (IntKind.i64.wrap (l - (↑xs.length : Int))), obs := [], outs := [] }))) := by kernel_rfl
theorem h51 : G1Ok Tryz.prog 51 g51 := by
  intro args obs k h
  unfold g51 at h
  split at h
  · rename_i k xs l
    obtain ⟨hp, hl, h⟩ := brb2 h
    simp only [inL, decide_eq_true_eq] at hl hp
    refine ⟨_, ctr_fn ok0 hg51 Tryz.func51 (by kernel_rfl) (by kernel_rfl) (by kernel_rfl) fun C => ?_, h⟩
    rw [e51]
    rw [wrap_id (n := l - xs.length) (by omega) (by omega)]
    refine br_dec (fun h => ?_) (fun h => ?_)
    · show _ = _
      rw [szR_neg (by omega)]
    · show _ = _
      rw [szR_pos (by omega)]
  · exact h.elim
def g52 : G1
  | [.rsl [.int .i64] xs, .val (.int .i64 l)], [], k => br (decide (xs.length ≤ 9223372036854775807) && inL l) (k ⟨.val (.int .i64 (szR l xs.length)), [], []⟩) False
  | _, _, _ => False
noncomputable def E52 : Env := E0.of Tryz.f52
noncomputable def G52 : Gk := gk []
noncomputable def lp52 (n : Nat) : Code := (loopOf n (codeOf Tryz.f52)).getD .skip
noncomputable def ct52 (L : Lp) (R : Option Res → Prop) (n : Nat) : Kt := contOf E52 G52 L n (codeOf Tryz.f52) (endK E52 Tryz.f52.results.toList R)
noncomputable def rk52 (L : Lp) (R : Option Res → Prop) (n : Nat) (N : St → Prop) : Kt := rk (jof E52 (lp52 n)) N (ct52 L R n)
noncomputable def rkn52 (L : Lp) (R : Option Res → Prop) (n : Nat) (N : St → Prop) (m : Nat) (N2 : St → Prop) : Kt := rk (jof E52 (lp52 m)) N2 (contOf E52 G52 L m (lp52 n) (rk52 L R n N))
noncomputable def LOOPN52 (L : Lp) (R : Option Res → Prop) (n : Nat) (N : St → Prop) (m : Nat) (st : St) : Prop := L (lp52 m) st (contOf E52 G52 L m (lp52 n) (rk52 L R n N))
noncomputable def LOOP52 (L : Lp) (R : Option Res → Prop) (n : Nat) (st : St) : Prop := L (lp52 n) st (ct52 L R n)
theorem hg52 : HG Tryz.prog G52 := hg_nil
theorem okf52 : Ok Tryz.prog E52 := ok0.of Tryz.f52
theorem e52 (L : Lp) (R : Option Res → Prop) (xs : List (Elem ki)) (l : Int) : (bodyP E0 G52 L Tryz.f52 [.rsl ki xs, .val (.int .i64 l)] [] R) = (
    br (decide (IntKind.i64.wrap (l - (↑xs.length : Int)) < 0)) (R (some { av := vI (-1), obs := [], outs := [] })) (R (some { av := vI (IntKind.i64.wrap (l - (↑xs.length : Int))), obs := [], outs := [] }))) := by kernel_rfl
theorem h52 : G1Ok Tryz.prog 52 g52 := by
  intro args obs k h
  unfold g52 at h
  split at h
  · rename_i k xs l
    obtain ⟨hp, hl, h⟩ := brb2 h
    simp only [inL, decide_eq_true_eq] at hl hp
    refine ⟨_, ctr_fn ok0 hg52 Tryz.func52 (by kernel_rfl) (by kernel_rfl) (by kernel_rfl) fun C => ?_, h⟩
    rw [e52]
    rw [wrap_id (n := l - xs.length) (by omega) (by omega)]
    refine br_dec (fun h => ?_) (fun h => ?_)
    · show _ = _
      rw [szR_neg (by omega)]
    · show _ = _
      rw [szR_pos (by omega)]
  · exact h.elim
def g23s : G1
  | [.rsl [.int .i64, .int .i64, .int .i64] xs, .val (.int .i64 l)], [], k => br (decide (xs.length ≤ 9223372036854775807) && inL l) (k ⟨.val (.int .i64 (szR l xs.length)), [], []⟩) False
  | _, _, _ => False
theorem h23s : G1Ok Tryz.prog 50 g23s := by
  intro args obs k h
  unfold g23s at h
  split at h
  · rename_i k xs l
    obtain ⟨hp, hl, h⟩ := brb2 h
    simp only [inL, decide_eq_true_eq] at hl hp
    refine ⟨_, ctr_fn ok0 hg_nil Tryz.func50 (by kernel_rfl) (by kernel_rfl) (by kernel_rfl) fun C => ?_, h⟩
    rw [e50]
    rw [wrap_id (n := l - xs.length) (by omega) (by omega)]
    refine br_dec (fun h => ?_) (fun h => ?_)
    · show _ = _
      rw [szR_neg (by omega)]
    · show _ = _
      rw [szR_pos (by omega)]
  · exact h.elim
def g124 : G1
  | [.agg us, .val (.int .i64 l)], [], k => match elemOf kc us with
    | some a => br (inC a && inL l) (k ⟨.val (.int .i64 (szR l (szC a))), [], []⟩) False
    | none => False
  | _, _, _ => False
noncomputable def E124 : Env := E0.of Tryz.f124
noncomputable def G124 : Gk := gk []
noncomputable def lp124 (n : Nat) : Code := (loopOf n (codeOf Tryz.f124)).getD .skip
noncomputable def ct124 (L : Lp) (R : Option Res → Prop) (n : Nat) : Kt := contOf E124 G124 L n (codeOf Tryz.f124) (endK E124 Tryz.f124.results.toList R)
noncomputable def rk124 (L : Lp) (R : Option Res → Prop) (n : Nat) (N : St → Prop) : Kt := rk (jof E124 (lp124 n)) N (ct124 L R n)
noncomputable def rkn124 (L : Lp) (R : Option Res → Prop) (n : Nat) (N : St → Prop) (m : Nat) (N2 : St → Prop) : Kt := rk (jof E124 (lp124 m)) N2 (contOf E124 G124 L m (lp124 n) (rk124 L R n N))
noncomputable def LOOPN124 (L : Lp) (R : Option Res → Prop) (n : Nat) (N : St → Prop) (m : Nat) (st : St) : Prop := L (lp124 m) st (contOf E124 G124 L m (lp124 n) (rk124 L R n N))
noncomputable def LOOP124 (L : Lp) (R : Option Res → Prop) (n : Nat) (st : St) : Prop := L (lp124 n) st (ct124 L R n)
theorem hg124 : HG Tryz.prog G124 := hg_nil
theorem okf124 : Ok Tryz.prog E124 := ok0.of Tryz.f124
theorem e124 (L : Lp) (R : Option Res → Prop) (a0 : ByteArray) (a1 : Int) (a2 : ByteArray) (a3 : Int) (a4 : Int) (a5 : Int) (a6 : Int) (a7 : Int) (a8 : Int) (a9 : Int) (a10 : Int) (a11 : Int) (a12 : Int) (a13 : Int) (a14 : Int) (a15 : Int) (a16 : Int) (a17 : Int) (a18 : Int) (a19 : Int) (a20 : Int) (a21 : Int) (a22 : Int) (a23 : Int) (a24 : Int) (a25 : Int) (a26 : Int) (a27 : Int) (a28 : Int) (a29 : Int) (a30 : Bool) (l : Int) : (bodyP E0 G124 L Tryz.f124 [.agg [.val (.string a0), .val (.int .i64 a1), .val (.string a2), .val (.int .i64 a3), .val (.int .i64 a4), .val (.int .i64 a5), .val (.int .i64 a6), .val (.int .i64 a7), .val (.int .i64 a8), .val (.int .i64 a9), .val (.int .i64 a10), .val (.int .i64 a11), .val (.int .i64 a12), .val (.int .i64 a13), .val (.int .i64 a14), .val (.int .i64 a15), .val (.int .i64 a16), .val (.int .i64 a17), .val (.int .i64 a18), .val (.int .i64 a19), .val (.int .i64 a20), .val (.int .i64 a21), .val (.int .i64 a22), .val (.int .i64 a23), .val (.int .i64 a24), .val (.int .i64 a25), .val (.int .i64 a26), .val (.int .i64 a27), .val (.int .i64 a28), .val (.int .i64 a29), .val (.bool a30)], .val (.int .i64 l)] [] R) = (
    br (decide (IntKind.i64.wrap (l - (↑a0.size : Int)) < 0)) (R (some { av := vI (-1), obs := [], outs := [] })) (br (decide (IntKind.i64.wrap (IntKind.i64.wrap (l - (↑a0.size : Int)) - (↑a2.size : Int)) < 0)) (R (some { av := vI (-1), obs := [], outs := [] })) (R (some { av := vI (IntKind.i64.wrap (IntKind.i64.wrap (l - (↑a0.size : Int)) - (↑a2.size : Int))), obs := [], outs := [] })))) := by kernel_rfl
theorem h124 : G1Ok Tryz.prog 124 g124 := by
  intro args obs k h
  unfold g124 at h
  split at h
  · rename_i k us l
    split at h
    rotate_left
    · exact h.elim
    rename_i a ha
    obtain rfl := elemOf_inv ha
    obtain ⟨a0, a1, a2, a3, a4, a5, a6, a7, a8, a9, a10, a11, a12, a13, a14, a15, a16, a17, a18, a19, a20, a21, a22, a23, a24, a25, a26, a27, a28, a29, a30, ⟨⟩⟩ := a
    obtain ⟨hp, hl, h⟩ := brb2 h
    unfold inC at hp
    simp only [inL, inS, Bool.and_eq_true, decide_eq_true_eq] at hl hp
    obtain ⟨h0, h2⟩ := hp
    refine ⟨_, ctr_fn ok0 hg124 Tryz.func124 (by kernel_rfl) (by kernel_rfl) (by kernel_rfl) fun C => ?_, h⟩
    show bodyP E0 G124 _ Tryz.f124 [.agg [.val (.string a0), .val (.int .i64 a1), .val (.string a2), .val (.int .i64 a3), .val (.int .i64 a4), .val (.int .i64 a5), .val (.int .i64 a6), .val (.int .i64 a7), .val (.int .i64 a8), .val (.int .i64 a9), .val (.int .i64 a10), .val (.int .i64 a11), .val (.int .i64 a12), .val (.int .i64 a13), .val (.int .i64 a14), .val (.int .i64 a15), .val (.int .i64 a16), .val (.int .i64 a17), .val (.int .i64 a18), .val (.int .i64 a19), .val (.int .i64 a20), .val (.int .i64 a21), .val (.int .i64 a22), .val (.int .i64 a23), .val (.int .i64 a24), .val (.int .i64 a25), .val (.int .i64 a26), .val (.int .i64 a27), .val (.int .i64 a28), .val (.int .i64 a29), .val (.bool a30)], .val (.int .i64 l)] [] _
    rw [e124]
    have e : szC (a0, a1, a2, a3, a4, a5, a6, a7, a8, a9, a10, a11, a12, a13, a14, a15, a16, a17, a18, a19, a20, a21, a22, a23, a24, a25, a26, a27, a28, a29, a30, ()) = a0.size + a2.size := rfl
    rw [e, wrap_id (n := l - a0.size) (by omega) (by omega)]
    refine br_dec (fun h => ?_) (fun h => ?_)
    · show _ = _
      rw [szR_neg (by omega)]
    rw [wrap_id (n := l - a0.size - a2.size) (by omega) (by omega)]
    refine br_dec (fun h => ?_) (fun h => ?_)
    · show _ = _
      rw [szR_neg (by omega)]
    · show _ = _
      rw [szR_pos (by omega)]
      exact resI (by omega)
  · exact h.elim
def szCs (xs : List (Elem kc)) : Nat := xs.length + (xs.map szC).sum
def inCs (xs : List (Elem kc)) : Bool := decide (xs.length ≤ 9223372036854775807) && xs.all inC
def g49 : G1
  | [.rsl cxs xs0, .val (.int .i64 l)], [], k => match castE kc cxs xs0 with
    | some xs => br (inCs xs && inL l) (k ⟨.val (.int .i64 (szR l (szCs xs))), [], []⟩) False
    | _ => False
  | _, _, _ => False
noncomputable def E49 : Env := E0.of Tryz.f49
noncomputable def G49 : Gk := gk [(124, g124)]
noncomputable def lp49 (n : Nat) : Code := (loopOf n (codeOf Tryz.f49)).getD .skip
noncomputable def ct49 (L : Lp) (R : Option Res → Prop) (n : Nat) : Kt := contOf E49 G49 L n (codeOf Tryz.f49) (endK E49 Tryz.f49.results.toList R)
noncomputable def rk49 (L : Lp) (R : Option Res → Prop) (n : Nat) (N : St → Prop) : Kt := rk (jof E49 (lp49 n)) N (ct49 L R n)
noncomputable def rkn49 (L : Lp) (R : Option Res → Prop) (n : Nat) (N : St → Prop) (m : Nat) (N2 : St → Prop) : Kt := rk (jof E49 (lp49 m)) N2 (contOf E49 G49 L m (lp49 n) (rk49 L R n N))
noncomputable def LOOPN49 (L : Lp) (R : Option Res → Prop) (n : Nat) (N : St → Prop) (m : Nat) (st : St) : Prop := L (lp49 m) st (contOf E49 G49 L m (lp49 n) (rk49 L R n N))
noncomputable def LOOP49 (L : Lp) (R : Option Res → Prop) (n : Nat) (st : St) : Prop := L (lp49 n) st (ct49 L R n)
theorem hg49 : HG Tryz.prog G49 := (hg_cons h124 hg_nil)
theorem okf49 : Ok Tryz.prog E49 := ok0.of Tryz.f49
theorem e49 (L : Lp) (R : Option Res → Prop) (xs : List (Elem kc)) (l : Int) : (bodyP E0 G49 L Tryz.f49 [.rsl kc xs, .val (.int .i64 l)] [] R) = (
    br (decide (IntKind.i64.wrap (l - (↑xs.length : Int)) < 0)) (R (some { av := vI (-1), obs := [], outs := [] })) (LOOP49 L R 5 { tm := [AV.rsl kc xs, vI (IntKind.i64.wrap (l - (↑xs.length : Int))), vU, vU, vI 0, vI 0, vJ, vJ, vJ, vJ, vJ, vJ, vJ, vJ, vJ, vJ, vJ, vJ, vJ, vJ, vJ, vJ, vJ, vJ, vJ, vJ, vU], ob := [], nx := 1000000, ps := [] })) := by kernel_rfl
def st49 (xs : List (Elem kc)) (l m i : Int) : St :=  ⟨[AV.rsl kc xs, .val (.int .i64 m), vU, vU, vI 0, .val (.int .i64 i), vJ, vJ, vJ, vJ, vJ, vJ, vJ, vJ, vJ, vJ, vJ, vJ, vJ, vJ, vJ, vJ, vJ, vJ, vJ, vJ, vU], [], 1000000, []⟩
theorem b49 (L : Lp) (R : Option Res → Prop) (N : St → Prop) (xs : List (Elem kc)) (l m i : Int) : (evP E49 G49 L (lp49 5) (st49 xs l m i) (rk49 L R 5 N)) = (
    br (decide (i < (↑xs.length : Int))) (br (decide (0 ≤ i ∧ i < (↑xs.length : Int))) (br (inC (xs.getD i.toNat (edflt kc)) && inL m) (br (decide (szR m (szC (xs.getD i.toNat (edflt kc))) < 0)) (R (some { av := vI (-1), obs := [], outs := [] })) (N { tm := [AV.rsl kc xs, vI (szR m (szC (xs.getD i.toNat (edflt kc)))), vU, vU, vI 0, vI (IntKind.i64.wrap (i + 1)), vJ, vJ, vJ, vJ, vJ, vJ, vJ, vJ, vJ, vJ, vJ, vJ, vJ, vJ, vJ, vJ, vJ, vJ, vJ, vJ, vU], ob := [], nx := 1000000, ps := [] })) False) False) (R (some { av := vI m, obs := [], outs := [] }))) := by kernel_rfl
theorem h49 : G1Ok Tryz.prog 49 g49 := by
  intro args obs k h
  unfold g49 at h
  split at h
  · rename_i k cxs xs0 l
    split at h
    rotate_left
    · exact h.elim
    rename_i xs hxs
    cases castE_inv hxs
    obtain ⟨hp, h⟩ := br_and h
    rw [Bool.and_eq_true] at hp
    obtain ⟨hB, hl⟩ := hp
    unfold inCs at hB
    rw [Bool.and_eq_true] at hB
    obtain ⟨hlen, hB⟩ := hB
    simp only [inL, decide_eq_true_eq] at hl hlen
    refine ⟨_, ctr_fn ok0 hg49 Tryz.func49 (by kernel_rfl) (by kernel_rfl) (by kernel_rfl) fun C => ?_, h⟩
    rw [e49]
    have e : szCs xs = xs.length + (xs.map szC).sum := rfl
    have hw0 := wrap_id (n := l - xs.length) (by omega) (by omega)
    refine br_dec (fun h => ?_) (fun h => ?_) <;> rw [hw0] at h
    · show _ = _
      rw [e, szR_neg (by omega)]
    · exact loopSz okf49 hg49 (fun i m => st49 xs l m i) xs (edflt kc) szC inC l (by omega) hl.2 hB (fun N i m hi h0 h1 hw hpr neg pos done => by
        show evP E49 G49 _ (lp49 5) (st49 xs l m i) (rk49 _ _ 5 _)
        rw [b49, hw, Int.toNat_natCast]
        refine br_dec (fun h => br_yes ⟨by omega, h⟩ (br_t ?_ (br_dec (fun h2 => ?_) (fun h2 => ?_)))) (fun h => ?_)
        · rw [Bool.and_eq_true]
          exact ⟨hpr (by omega), by simp only [inL, decide_eq_true_eq]; omega⟩
        · show _ = _
          rw [e, neg (by omega) (szR_lt0 h2)]
        · rw [szR_pos (szR_ge0 h2)]
          exact pos (by omega) (szR_ge0 h2)
        · show _ = _
          rw [e, done (by omega)]) _ hw0 (by omega)
  · exact h.elim
def g196 : G1
  | [.agg us], [], k => match elemOf [.int .i64, .int .i64, .int .i64, .int .i64, .int .i64, .int .i64, .int .i64, .int .i64, .int .i64, .int .i64, .int .i64, .int .i64, .int .i64, .int .i64, .int .i64, .int .i64, .int .i64, .int .i64, .int .i64, .int .i64, .int .i64, .int .i64, .int .i64, .int .i64] us with
    | some a => k ⟨.agg ((vals [.int .i64, .int .i64, .int .i64, .int .i64, .int .i64, .int .i64, .int .i64, .int .i64, .int .i64, .int .i64, .int .i64, .int .i64, .int .i64, .int .i64, .int .i64, .int .i64, .int .i64, .int .i64, .int .i64, .int .i64, .int .i64, .int .i64, .int .i64, .int .i64] a).map .val), [], []⟩
    | none => False
  | _, _, _ => False
noncomputable def E196 : Env := E0.of Tryz.f196
noncomputable def G196 : Gk := gk [(128, g128)]
noncomputable def lp196 (n : Nat) : Code := (loopOf n (codeOf Tryz.f196)).getD .skip
noncomputable def ct196 (L : Lp) (R : Option Res → Prop) (n : Nat) : Kt := contOf E196 G196 L n (codeOf Tryz.f196) (endK E196 Tryz.f196.results.toList R)
noncomputable def rk196 (L : Lp) (R : Option Res → Prop) (n : Nat) (N : St → Prop) : Kt := rk (jof E196 (lp196 n)) N (ct196 L R n)
noncomputable def rkn196 (L : Lp) (R : Option Res → Prop) (n : Nat) (N : St → Prop) (m : Nat) (N2 : St → Prop) : Kt := rk (jof E196 (lp196 m)) N2 (contOf E196 G196 L m (lp196 n) (rk196 L R n N))
noncomputable def LOOPN196 (L : Lp) (R : Option Res → Prop) (n : Nat) (N : St → Prop) (m : Nat) (st : St) : Prop := L (lp196 m) st (contOf E196 G196 L m (lp196 n) (rk196 L R n N))
noncomputable def LOOP196 (L : Lp) (R : Option Res → Prop) (n : Nat) (st : St) : Prop := L (lp196 n) st (ct196 L R n)
theorem hg196 : HG Tryz.prog G196 := (hg_cons h128 hg_nil)
theorem okf196 : Ok Tryz.prog E196 := ok0.of Tryz.f196
theorem e196 (L : Lp) (R : Option Res → Prop) (a0 : Int) (a1 : Int) (a2 : Int) (a3 : Int) (a4 : Int) (a5 : Int) (a6 : Int) (a7 : Int) (a8 : Int) (a9 : Int) (a10 : Int) (a11 : Int) (a12 : Int) (a13 : Int) (a14 : Int) (a15 : Int) (a16 : Int) (a17 : Int) (a18 : Int) (a19 : Int) (a20 : Int) (a21 : Int) (a22 : Int) (a23 : Int) : (bodyP E0 G196 L Tryz.f196 [.agg [.val (.int .i64 a0), .val (.int .i64 a1), .val (.int .i64 a2), .val (.int .i64 a3), .val (.int .i64 a4), .val (.int .i64 a5), .val (.int .i64 a6), .val (.int .i64 a7), .val (.int .i64 a8), .val (.int .i64 a9), .val (.int .i64 a10), .val (.int .i64 a11), .val (.int .i64 a12), .val (.int .i64 a13), .val (.int .i64 a14), .val (.int .i64 a15), .val (.int .i64 a16), .val (.int .i64 a17), .val (.int .i64 a18), .val (.int .i64 a19), .val (.int .i64 a20), .val (.int .i64 a21), .val (.int .i64 a22), .val (.int .i64 a23)]] [] R) = (
    LOOP196 L R 3 { tm := [AV.agg [vI a0, vI a1, vI a2, vI a3, vI a4, vI a5, vI a6, vI a7, vI a8, vI a9, vI a10, vI a11, vI a12, vI a13, vI a14, vI a15, vI a16, vI a17, vI a18, vI a19, vI a20, vI a21, vI a22, vI a23], AV.ptr 0 0, AV.ptr 1 0, AV.ptr 2 0, vI 0, vJ, vJ, vJ, vJ, vJ, vJ, vJ, vJ, vJ, vJ, vU], ob := [(0, AO.box [vI a0, vI a1, vI a2, vI a3, vI a4, vI a5, vI a6, vI a7, vI a8, vI a9, vI a10, vI a11, vI a12, vI a13, vI a14, vI a15, vI a16, vI a17, vI a18, vI a19, vI a20, vI a21, vI a22, vI a23]), (1, AO.box [vI 0, vI 0, vI 0, vI 0, vI 0, vI 0, vI 0, vI 0, vI 0, vI 0, vI 0, vI 0, vI 0, vI 0, vI 0, vI 0, vI 0, vI 0, vI 0, vI 0, vI 0, vI 0, vI 0, vI 0]), (2, AO.box [vI 0, vI 0, vI 0, vI 0, vI 0, vI 0, vI 0, vI 0, vI 0, vI 0, vI 0, vI 0, vI 0, vI 0, vI 0, vI 0, vI 0, vI 0, vI 0, vI 0, vI 0, vI 0, vI 0, vI 0])], nx := 1000000, ps := [] }) := by kernel_rfl
def st196 (a0 : Int) (a1 : Int) (a2 : Int) (a3 : Int) (a4 : Int) (a5 : Int) (a6 : Int) (a7 : Int) (a8 : Int) (a9 : Int) (a10 : Int) (a11 : Int) (a12 : Int) (a13 : Int) (a14 : Int) (a15 : Int) (a16 : Int) (a17 : Int) (a18 : Int) (a19 : Int) (a20 : Int) (a21 : Int) (a22 : Int) (a23 : Int) (i : Int) (b0 : Int) (b1 : Int) (b2 : Int) (b3 : Int) (b4 : Int) (b5 : Int) (b6 : Int) (b7 : Int) (b8 : Int) (b9 : Int) (b10 : Int) (b11 : Int) (b12 : Int) (b13 : Int) (b14 : Int) (b15 : Int) (b16 : Int) (b17 : Int) (b18 : Int) (b19 : Int) (b20 : Int) (b21 : Int) (b22 : Int) (b23 : Int) : St :=  ⟨[AV.agg [vI a0, vI a1, vI a2, vI a3, vI a4, vI a5, vI a6, vI a7, vI a8, vI a9, vI a10, vI a11, vI a12, vI a13, vI a14, vI a15, vI a16, vI a17, vI a18, vI a19, vI a20, vI a21, vI a22, vI a23], AV.ptr 0 0, AV.ptr 1 0, AV.ptr 2 0, .val (.int .i64 i), vJ, vJ, vJ, vJ, vJ, vJ, vJ, vJ, vJ, vJ, vU], [(0, AO.box [vI a0, vI a1, vI a2, vI a3, vI a4, vI a5, vI a6, vI a7, vI a8, vI a9, vI a10, vI a11, vI a12, vI a13, vI a14, vI a15, vI a16, vI a17, vI a18, vI a19, vI a20, vI a21, vI a22, vI a23]), (1, AO.box [vI 0, vI 0, vI 0, vI 0, vI 0, vI 0, vI 0, vI 0, vI 0, vI 0, vI 0, vI 0, vI 0, vI 0, vI 0, vI 0, vI 0, vI 0, vI 0, vI 0, vI 0, vI 0, vI 0, vI 0]), (2, .box [.val (.int .i64 b0), .val (.int .i64 b1), .val (.int .i64 b2), .val (.int .i64 b3), .val (.int .i64 b4), .val (.int .i64 b5), .val (.int .i64 b6), .val (.int .i64 b7), .val (.int .i64 b8), .val (.int .i64 b9), .val (.int .i64 b10), .val (.int .i64 b11), .val (.int .i64 b12), .val (.int .i64 b13), .val (.int .i64 b14), .val (.int .i64 b15), .val (.int .i64 b16), .val (.int .i64 b17), .val (.int .i64 b18), .val (.int .i64 b19), .val (.int .i64 b20), .val (.int .i64 b21), .val (.int .i64 b22), .val (.int .i64 b23)])], 1000000, []⟩
theorem b196_0 (L : Lp) (R : Option Res → Prop) (N : St → Prop) (a0 : Int) (a1 : Int) (a2 : Int) (a3 : Int) (a4 : Int) (a5 : Int) (a6 : Int) (a7 : Int) (a8 : Int) (a9 : Int) (a10 : Int) (a11 : Int) (a12 : Int) (a13 : Int) (a14 : Int) (a15 : Int) (a16 : Int) (a17 : Int) (a18 : Int) (a19 : Int) (a20 : Int) (a21 : Int) (a22 : Int) (a23 : Int) : (evP E196 G196 L (lp196 3) (st196 a0 a1 a2 a3 a4 a5 a6 a7 a8 a9 a10 a11 a12 a13 a14 a15 a16 a17 a18 a19 a20 a21 a22 a23 0 0 0 0 0 0 0 0 0 0 0 0 0 0 0 0 0 0 0 0 0 0 0 0 0) (rk196 L R 3 N)) = (
    N { tm := [AV.agg [vI a0, vI a1, vI a2, vI a3, vI a4, vI a5, vI a6, vI a7, vI a8, vI a9, vI a10, vI a11, vI a12, vI a13, vI a14, vI a15, vI a16, vI a17, vI a18, vI a19, vI a20, vI a21, vI a22, vI a23], AV.ptr 0 0, AV.ptr 1 0, AV.ptr 2 0, vI 1, vJ, vJ, vJ, vJ, vJ, vJ, vJ, vJ, vJ, vJ, vU], ob := [(0, AO.box [vI a0, vI a1, vI a2, vI a3, vI a4, vI a5, vI a6, vI a7, vI a8, vI a9, vI a10, vI a11, vI a12, vI a13, vI a14, vI a15, vI a16, vI a17, vI a18, vI a19, vI a20, vI a21, vI a22, vI a23]), (1, AO.box [vI 0, vI 0, vI 0, vI 0, vI 0, vI 0, vI 0, vI 0, vI 0, vI 0, vI 0, vI 0, vI 0, vI 0, vI 0, vI 0, vI 0, vI 0, vI 0, vI 0, vI 0, vI 0, vI 0, vI 0]), (2, AO.box [vI a0, vI a1, vI a2, vI 0, vI 0, vI 0, vI 0, vI 0, vI 0, vI 0, vI 0, vI 0, vI 0, vI 0, vI 0, vI 0, vI 0, vI 0, vI 0, vI 0, vI 0, vI 0, vI 0, vI 0])], nx := 1000000, ps := [] }) := by kernel_rfl
theorem b196_1 (L : Lp) (R : Option Res → Prop) (N : St → Prop) (a0 : Int) (a1 : Int) (a2 : Int) (a3 : Int) (a4 : Int) (a5 : Int) (a6 : Int) (a7 : Int) (a8 : Int) (a9 : Int) (a10 : Int) (a11 : Int) (a12 : Int) (a13 : Int) (a14 : Int) (a15 : Int) (a16 : Int) (a17 : Int) (a18 : Int) (a19 : Int) (a20 : Int) (a21 : Int) (a22 : Int) (a23 : Int) : (evP E196 G196 L (lp196 3) (st196 a0 a1 a2 a3 a4 a5 a6 a7 a8 a9 a10 a11 a12 a13 a14 a15 a16 a17 a18 a19 a20 a21 a22 a23 1 a0 a1 a2 0 0 0 0 0 0 0 0 0 0 0 0 0 0 0 0 0 0 0 0 0) (rk196 L R 3 N)) = (
    N { tm := [AV.agg [vI a0, vI a1, vI a2, vI a3, vI a4, vI a5, vI a6, vI a7, vI a8, vI a9, vI a10, vI a11, vI a12, vI a13, vI a14, vI a15, vI a16, vI a17, vI a18, vI a19, vI a20, vI a21, vI a22, vI a23], AV.ptr 0 0, AV.ptr 1 0, AV.ptr 2 0, vI 2, vJ, vJ, vJ, vJ, vJ, vJ, vJ, vJ, vJ, vJ, vU], ob := [(0, AO.box [vI a0, vI a1, vI a2, vI a3, vI a4, vI a5, vI a6, vI a7, vI a8, vI a9, vI a10, vI a11, vI a12, vI a13, vI a14, vI a15, vI a16, vI a17, vI a18, vI a19, vI a20, vI a21, vI a22, vI a23]), (1, AO.box [vI 0, vI 0, vI 0, vI 0, vI 0, vI 0, vI 0, vI 0, vI 0, vI 0, vI 0, vI 0, vI 0, vI 0, vI 0, vI 0, vI 0, vI 0, vI 0, vI 0, vI 0, vI 0, vI 0, vI 0]), (2, AO.box [vI a0, vI a1, vI a2, vI a3, vI a4, vI a5, vI 0, vI 0, vI 0, vI 0, vI 0, vI 0, vI 0, vI 0, vI 0, vI 0, vI 0, vI 0, vI 0, vI 0, vI 0, vI 0, vI 0, vI 0])], nx := 1000000, ps := [] }) := by kernel_rfl
theorem b196_2 (L : Lp) (R : Option Res → Prop) (N : St → Prop) (a0 : Int) (a1 : Int) (a2 : Int) (a3 : Int) (a4 : Int) (a5 : Int) (a6 : Int) (a7 : Int) (a8 : Int) (a9 : Int) (a10 : Int) (a11 : Int) (a12 : Int) (a13 : Int) (a14 : Int) (a15 : Int) (a16 : Int) (a17 : Int) (a18 : Int) (a19 : Int) (a20 : Int) (a21 : Int) (a22 : Int) (a23 : Int) : (evP E196 G196 L (lp196 3) (st196 a0 a1 a2 a3 a4 a5 a6 a7 a8 a9 a10 a11 a12 a13 a14 a15 a16 a17 a18 a19 a20 a21 a22 a23 2 a0 a1 a2 a3 a4 a5 0 0 0 0 0 0 0 0 0 0 0 0 0 0 0 0 0 0) (rk196 L R 3 N)) = (
    N { tm := [AV.agg [vI a0, vI a1, vI a2, vI a3, vI a4, vI a5, vI a6, vI a7, vI a8, vI a9, vI a10, vI a11, vI a12, vI a13, vI a14, vI a15, vI a16, vI a17, vI a18, vI a19, vI a20, vI a21, vI a22, vI a23], AV.ptr 0 0, AV.ptr 1 0, AV.ptr 2 0, vI 3, vJ, vJ, vJ, vJ, vJ, vJ, vJ, vJ, vJ, vJ, vU], ob := [(0, AO.box [vI a0, vI a1, vI a2, vI a3, vI a4, vI a5, vI a6, vI a7, vI a8, vI a9, vI a10, vI a11, vI a12, vI a13, vI a14, vI a15, vI a16, vI a17, vI a18, vI a19, vI a20, vI a21, vI a22, vI a23]), (1, AO.box [vI 0, vI 0, vI 0, vI 0, vI 0, vI 0, vI 0, vI 0, vI 0, vI 0, vI 0, vI 0, vI 0, vI 0, vI 0, vI 0, vI 0, vI 0, vI 0, vI 0, vI 0, vI 0, vI 0, vI 0]), (2, AO.box [vI a0, vI a1, vI a2, vI a3, vI a4, vI a5, vI a6, vI a7, vI a8, vI 0, vI 0, vI 0, vI 0, vI 0, vI 0, vI 0, vI 0, vI 0, vI 0, vI 0, vI 0, vI 0, vI 0, vI 0])], nx := 1000000, ps := [] }) := by kernel_rfl
theorem b196_3 (L : Lp) (R : Option Res → Prop) (N : St → Prop) (a0 : Int) (a1 : Int) (a2 : Int) (a3 : Int) (a4 : Int) (a5 : Int) (a6 : Int) (a7 : Int) (a8 : Int) (a9 : Int) (a10 : Int) (a11 : Int) (a12 : Int) (a13 : Int) (a14 : Int) (a15 : Int) (a16 : Int) (a17 : Int) (a18 : Int) (a19 : Int) (a20 : Int) (a21 : Int) (a22 : Int) (a23 : Int) : (evP E196 G196 L (lp196 3) (st196 a0 a1 a2 a3 a4 a5 a6 a7 a8 a9 a10 a11 a12 a13 a14 a15 a16 a17 a18 a19 a20 a21 a22 a23 3 a0 a1 a2 a3 a4 a5 a6 a7 a8 0 0 0 0 0 0 0 0 0 0 0 0 0 0 0) (rk196 L R 3 N)) = (
    N { tm := [AV.agg [vI a0, vI a1, vI a2, vI a3, vI a4, vI a5, vI a6, vI a7, vI a8, vI a9, vI a10, vI a11, vI a12, vI a13, vI a14, vI a15, vI a16, vI a17, vI a18, vI a19, vI a20, vI a21, vI a22, vI a23], AV.ptr 0 0, AV.ptr 1 0, AV.ptr 2 0, vI 4, vJ, vJ, vJ, vJ, vJ, vJ, vJ, vJ, vJ, vJ, vU], ob := [(0, AO.box [vI a0, vI a1, vI a2, vI a3, vI a4, vI a5, vI a6, vI a7, vI a8, vI a9, vI a10, vI a11, vI a12, vI a13, vI a14, vI a15, vI a16, vI a17, vI a18, vI a19, vI a20, vI a21, vI a22, vI a23]), (1, AO.box [vI 0, vI 0, vI 0, vI 0, vI 0, vI 0, vI 0, vI 0, vI 0, vI 0, vI 0, vI 0, vI 0, vI 0, vI 0, vI 0, vI 0, vI 0, vI 0, vI 0, vI 0, vI 0, vI 0, vI 0]), (2, AO.box [vI a0, vI a1, vI a2, vI a3, vI a4, vI a5, vI a6, vI a7, vI a8, vI a9, vI a10, vI a11, vI 0, vI 0, vI 0, vI 0, vI 0, vI 0, vI 0, vI 0, vI 0, vI 0, vI 0, vI 0])], nx := 1000000, ps := [] }) := by kernel_rfl
theorem b196_4 (L : Lp) (R : Option Res → Prop) (N : St → Prop) (a0 : Int) (a1 : Int) (a2 : Int) (a3 : Int) (a4 : Int) (a5 : Int) (a6 : Int) (a7 : Int) (a8 : Int) (a9 : Int) (a10 : Int) (a11 : Int) (a12 : Int) (a13 : Int) (a14 : Int) (a15 : Int) (a16 : Int) (a17 : Int) (a18 : Int) (a19 : Int) (a20 : Int) (a21 : Int) (a22 : Int) (a23 : Int) : (evP E196 G196 L (lp196 3) (st196 a0 a1 a2 a3 a4 a5 a6 a7 a8 a9 a10 a11 a12 a13 a14 a15 a16 a17 a18 a19 a20 a21 a22 a23 4 a0 a1 a2 a3 a4 a5 a6 a7 a8 a9 a10 a11 0 0 0 0 0 0 0 0 0 0 0 0) (rk196 L R 3 N)) = (
    N { tm := [AV.agg [vI a0, vI a1, vI a2, vI a3, vI a4, vI a5, vI a6, vI a7, vI a8, vI a9, vI a10, vI a11, vI a12, vI a13, vI a14, vI a15, vI a16, vI a17, vI a18, vI a19, vI a20, vI a21, vI a22, vI a23], AV.ptr 0 0, AV.ptr 1 0, AV.ptr 2 0, vI 5, vJ, vJ, vJ, vJ, vJ, vJ, vJ, vJ, vJ, vJ, vU], ob := [(0, AO.box [vI a0, vI a1, vI a2, vI a3, vI a4, vI a5, vI a6, vI a7, vI a8, vI a9, vI a10, vI a11, vI a12, vI a13, vI a14, vI a15, vI a16, vI a17, vI a18, vI a19, vI a20, vI a21, vI a22, vI a23]), (1, AO.box [vI 0, vI 0, vI 0, vI 0, vI 0, vI 0, vI 0, vI 0, vI 0, vI 0, vI 0, vI 0, vI 0, vI 0, vI 0, vI 0, vI 0, vI 0, vI 0, vI 0, vI 0, vI 0, vI 0, vI 0]), (2, AO.box [vI a0, vI a1, vI a2, vI a3, vI a4, vI a5, vI a6, vI a7, vI a8, vI a9, vI a10, vI a11, vI a12, vI a13, vI a14, vI 0, vI 0, vI 0, vI 0, vI 0, vI 0, vI 0, vI 0, vI 0])], nx := 1000000, ps := [] }) := by kernel_rfl
theorem b196_5 (L : Lp) (R : Option Res → Prop) (N : St → Prop) (a0 : Int) (a1 : Int) (a2 : Int) (a3 : Int) (a4 : Int) (a5 : Int) (a6 : Int) (a7 : Int) (a8 : Int) (a9 : Int) (a10 : Int) (a11 : Int) (a12 : Int) (a13 : Int) (a14 : Int) (a15 : Int) (a16 : Int) (a17 : Int) (a18 : Int) (a19 : Int) (a20 : Int) (a21 : Int) (a22 : Int) (a23 : Int) : (evP E196 G196 L (lp196 3) (st196 a0 a1 a2 a3 a4 a5 a6 a7 a8 a9 a10 a11 a12 a13 a14 a15 a16 a17 a18 a19 a20 a21 a22 a23 5 a0 a1 a2 a3 a4 a5 a6 a7 a8 a9 a10 a11 a12 a13 a14 0 0 0 0 0 0 0 0 0) (rk196 L R 3 N)) = (
    N { tm := [AV.agg [vI a0, vI a1, vI a2, vI a3, vI a4, vI a5, vI a6, vI a7, vI a8, vI a9, vI a10, vI a11, vI a12, vI a13, vI a14, vI a15, vI a16, vI a17, vI a18, vI a19, vI a20, vI a21, vI a22, vI a23], AV.ptr 0 0, AV.ptr 1 0, AV.ptr 2 0, vI 6, vJ, vJ, vJ, vJ, vJ, vJ, vJ, vJ, vJ, vJ, vU], ob := [(0, AO.box [vI a0, vI a1, vI a2, vI a3, vI a4, vI a5, vI a6, vI a7, vI a8, vI a9, vI a10, vI a11, vI a12, vI a13, vI a14, vI a15, vI a16, vI a17, vI a18, vI a19, vI a20, vI a21, vI a22, vI a23]), (1, AO.box [vI 0, vI 0, vI 0, vI 0, vI 0, vI 0, vI 0, vI 0, vI 0, vI 0, vI 0, vI 0, vI 0, vI 0, vI 0, vI 0, vI 0, vI 0, vI 0, vI 0, vI 0, vI 0, vI 0, vI 0]), (2, AO.box [vI a0, vI a1, vI a2, vI a3, vI a4, vI a5, vI a6, vI a7, vI a8, vI a9, vI a10, vI a11, vI a12, vI a13, vI a14, vI a15, vI a16, vI a17, vI 0, vI 0, vI 0, vI 0, vI 0, vI 0])], nx := 1000000, ps := [] }) := by kernel_rfl
theorem b196_6 (L : Lp) (R : Option Res → Prop) (N : St → Prop) (a0 : Int) (a1 : Int) (a2 : Int) (a3 : Int) (a4 : Int) (a5 : Int) (a6 : Int) (a7 : Int) (a8 : Int) (a9 : Int) (a10 : Int) (a11 : Int) (a12 : Int) (a13 : Int) (a14 : Int) (a15 : Int) (a16 : Int) (a17 : Int) (a18 : Int) (a19 : Int) (a20 : Int) (a21 : Int) (a22 : Int) (a23 : Int) : (evP E196 G196 L (lp196 3) (st196 a0 a1 a2 a3 a4 a5 a6 a7 a8 a9 a10 a11 a12 a13 a14 a15 a16 a17 a18 a19 a20 a21 a22 a23 6 a0 a1 a2 a3 a4 a5 a6 a7 a8 a9 a10 a11 a12 a13 a14 a15 a16 a17 0 0 0 0 0 0) (rk196 L R 3 N)) = (
    N { tm := [AV.agg [vI a0, vI a1, vI a2, vI a3, vI a4, vI a5, vI a6, vI a7, vI a8, vI a9, vI a10, vI a11, vI a12, vI a13, vI a14, vI a15, vI a16, vI a17, vI a18, vI a19, vI a20, vI a21, vI a22, vI a23], AV.ptr 0 0, AV.ptr 1 0, AV.ptr 2 0, vI 7, vJ, vJ, vJ, vJ, vJ, vJ, vJ, vJ, vJ, vJ, vU], ob := [(0, AO.box [vI a0, vI a1, vI a2, vI a3, vI a4, vI a5, vI a6, vI a7, vI a8, vI a9, vI a10, vI a11, vI a12, vI a13, vI a14, vI a15, vI a16, vI a17, vI a18, vI a19, vI a20, vI a21, vI a22, vI a23]), (1, AO.box [vI 0, vI 0, vI 0, vI 0, vI 0, vI 0, vI 0, vI 0, vI 0, vI 0, vI 0, vI 0, vI 0, vI 0, vI 0, vI 0, vI 0, vI 0, vI 0, vI 0, vI 0, vI 0, vI 0, vI 0]), (2, AO.box [vI a0, vI a1, vI a2, vI a3, vI a4, vI a5, vI a6, vI a7, vI a8, vI a9, vI a10, vI a11, vI a12, vI a13, vI a14, vI a15, vI a16, vI a17, vI a18, vI a19, vI a20, vI 0, vI 0, vI 0])], nx := 1000000, ps := [] }) := by kernel_rfl
theorem b196_7 (L : Lp) (R : Option Res → Prop) (N : St → Prop) (a0 : Int) (a1 : Int) (a2 : Int) (a3 : Int) (a4 : Int) (a5 : Int) (a6 : Int) (a7 : Int) (a8 : Int) (a9 : Int) (a10 : Int) (a11 : Int) (a12 : Int) (a13 : Int) (a14 : Int) (a15 : Int) (a16 : Int) (a17 : Int) (a18 : Int) (a19 : Int) (a20 : Int) (a21 : Int) (a22 : Int) (a23 : Int) : (evP E196 G196 L (lp196 3) (st196 a0 a1 a2 a3 a4 a5 a6 a7 a8 a9 a10 a11 a12 a13 a14 a15 a16 a17 a18 a19 a20 a21 a22 a23 7 a0 a1 a2 a3 a4 a5 a6 a7 a8 a9 a10 a11 a12 a13 a14 a15 a16 a17 a18 a19 a20 0 0 0) (rk196 L R 3 N)) = (
    N { tm := [AV.agg [vI a0, vI a1, vI a2, vI a3, vI a4, vI a5, vI a6, vI a7, vI a8, vI a9, vI a10, vI a11, vI a12, vI a13, vI a14, vI a15, vI a16, vI a17, vI a18, vI a19, vI a20, vI a21, vI a22, vI a23], AV.ptr 0 0, AV.ptr 1 0, AV.ptr 2 0, vI 8, vJ, vJ, vJ, vJ, vJ, vJ, vJ, vJ, vJ, vJ, vU], ob := [(0, AO.box [vI a0, vI a1, vI a2, vI a3, vI a4, vI a5, vI a6, vI a7, vI a8, vI a9, vI a10, vI a11, vI a12, vI a13, vI a14, vI a15, vI a16, vI a17, vI a18, vI a19, vI a20, vI a21, vI a22, vI a23]), (1, AO.box [vI 0, vI 0, vI 0, vI 0, vI 0, vI 0, vI 0, vI 0, vI 0, vI 0, vI 0, vI 0, vI 0, vI 0, vI 0, vI 0, vI 0, vI 0, vI 0, vI 0, vI 0, vI 0, vI 0, vI 0]), (2, AO.box [vI a0, vI a1, vI a2, vI a3, vI a4, vI a5, vI a6, vI a7, vI a8, vI a9, vI a10, vI a11, vI a12, vI a13, vI a14, vI a15, vI a16, vI a17, vI a18, vI a19, vI a20, vI a21, vI a22, vI a23])], nx := 1000000, ps := [] }) := by kernel_rfl
theorem b196_8 (L : Lp) (R : Option Res → Prop) (N : St → Prop) (a0 : Int) (a1 : Int) (a2 : Int) (a3 : Int) (a4 : Int) (a5 : Int) (a6 : Int) (a7 : Int) (a8 : Int) (a9 : Int) (a10 : Int) (a11 : Int) (a12 : Int) (a13 : Int) (a14 : Int) (a15 : Int) (a16 : Int) (a17 : Int) (a18 : Int) (a19 : Int) (a20 : Int) (a21 : Int) (a22 : Int) (a23 : Int) : (evP E196 G196 L (lp196 3) (st196 a0 a1 a2 a3 a4 a5 a6 a7 a8 a9 a10 a11 a12 a13 a14 a15 a16 a17 a18 a19 a20 a21 a22 a23 8 a0 a1 a2 a3 a4 a5 a6 a7 a8 a9 a10 a11 a12 a13 a14 a15 a16 a17 a18 a19 a20 a21 a22 a23) (rk196 L R 3 N)) = (
    R (some { av := AV.agg [vI a0, vI a1, vI a2, vI a3, vI a4, vI a5, vI a6, vI a7, vI a8, vI a9, vI a10, vI a11, vI a12, vI a13, vI a14, vI a15, vI a16, vI a17, vI a18, vI a19, vI a20, vI a21, vI a22, vI a23], obs := [], outs := [] })) := by kernel_rfl
def sq196 (a0 : Int) (a1 : Int) (a2 : Int) (a3 : Int) (a4 : Int) (a5 : Int) (a6 : Int) (a7 : Int) (a8 : Int) (a9 : Int) (a10 : Int) (a11 : Int) (a12 : Int) (a13 : Int) (a14 : Int) (a15 : Int) (a16 : Int) (a17 : Int) (a18 : Int) (a19 : Int) (a20 : Int) (a21 : Int) (a22 : Int) (a23 : Int) : Nat → St
  | 0 => st196 a0 a1 a2 a3 a4 a5 a6 a7 a8 a9 a10 a11 a12 a13 a14 a15 a16 a17 a18 a19 a20 a21 a22 a23 0 0 0 0 0 0 0 0 0 0 0 0 0 0 0 0 0 0 0 0 0 0 0 0 0
  | 1 => st196 a0 a1 a2 a3 a4 a5 a6 a7 a8 a9 a10 a11 a12 a13 a14 a15 a16 a17 a18 a19 a20 a21 a22 a23 1 a0 a1 a2 0 0 0 0 0 0 0 0 0 0 0 0 0 0 0 0 0 0 0 0 0
  | 2 => st196 a0 a1 a2 a3 a4 a5 a6 a7 a8 a9 a10 a11 a12 a13 a14 a15 a16 a17 a18 a19 a20 a21 a22 a23 2 a0 a1 a2 a3 a4 a5 0 0 0 0 0 0 0 0 0 0 0 0 0 0 0 0 0 0
  | 3 => st196 a0 a1 a2 a3 a4 a5 a6 a7 a8 a9 a10 a11 a12 a13 a14 a15 a16 a17 a18 a19 a20 a21 a22 a23 3 a0 a1 a2 a3 a4 a5 a6 a7 a8 0 0 0 0 0 0 0 0 0 0 0 0 0 0 0
  | 4 => st196 a0 a1 a2 a3 a4 a5 a6 a7 a8 a9 a10 a11 a12 a13 a14 a15 a16 a17 a18 a19 a20 a21 a22 a23 4 a0 a1 a2 a3 a4 a5 a6 a7 a8 a9 a10 a11 0 0 0 0 0 0 0 0 0 0 0 0
  | 5 => st196 a0 a1 a2 a3 a4 a5 a6 a7 a8 a9 a10 a11 a12 a13 a14 a15 a16 a17 a18 a19 a20 a21 a22 a23 5 a0 a1 a2 a3 a4 a5 a6 a7 a8 a9 a10 a11 a12 a13 a14 0 0 0 0 0 0 0 0 0
  | 6 => st196 a0 a1 a2 a3 a4 a5 a6 a7 a8 a9 a10 a11 a12 a13 a14 a15 a16 a17 a18 a19 a20 a21 a22 a23 6 a0 a1 a2 a3 a4 a5 a6 a7 a8 a9 a10 a11 a12 a13 a14 a15 a16 a17 0 0 0 0 0 0
  | 7 => st196 a0 a1 a2 a3 a4 a5 a6 a7 a8 a9 a10 a11 a12 a13 a14 a15 a16 a17 a18 a19 a20 a21 a22 a23 7 a0 a1 a2 a3 a4 a5 a6 a7 a8 a9 a10 a11 a12 a13 a14 a15 a16 a17 a18 a19 a20 0 0 0
  | _ => st196 a0 a1 a2 a3 a4 a5 a6 a7 a8 a9 a10 a11 a12 a13 a14 a15 a16 a17 a18 a19 a20 a21 a22 a23 8 a0 a1 a2 a3 a4 a5 a6 a7 a8 a9 a10 a11 a12 a13 a14 a15 a16 a17 a18 a19 a20 a21 a22 a23
theorem h196 : G1Ok Tryz.prog 196 g196 := by
  intro args obs k h
  unfold g196 at h
  split at h
  · rename_i k us
    split at h
    rotate_left
    · exact h.elim
    rename_i a ha
    obtain rfl := elemOf_inv ha
    obtain ⟨a0, a1, a2, a3, a4, a5, a6, a7, a8, a9, a10, a11, a12, a13, a14, a15, a16, a17, a18, a19, a20, a21, a22, a23, ⟨⟩⟩ := a
    refine ⟨_, ctr_fn ok0 hg196 Tryz.func196 (by kernel_rfl) (by kernel_rfl) (by kernel_rfl) fun C => ?_, h⟩
    show bodyP E0 G196 _ Tryz.f196 [.agg [.val (.int .i64 a0), .val (.int .i64 a1), .val (.int .i64 a2), .val (.int .i64 a3), .val (.int .i64 a4), .val (.int .i64 a5), .val (.int .i64 a6), .val (.int .i64 a7), .val (.int .i64 a8), .val (.int .i64 a9), .val (.int .i64 a10), .val (.int .i64 a11), .val (.int .i64 a12), .val (.int .i64 a13), .val (.int .i64 a14), .val (.int .i64 a15), .val (.int .i64 a16), .val (.int .i64 a17), .val (.int .i64 a18), .val (.int .i64 a19), .val (.int .i64 a20), .val (.int .i64 a21), .val (.int .i64 a22), .val (.int .i64 a23)]] [] _
    rw [e196]
    refine loopSeq okf196 hg196 (sq196 a0 a1 a2 a3 a4 a5 a6 a7 a8 a9 a10 a11 a12 a13 a14 a15 a16 a17 a18 a19 a20 a21 a22 a23) 8 (fun N i hi next => ?_) (fun N => ?_)
    · have cs : i = 0 ∨ i = 1 ∨ i = 2 ∨ i = 3 ∨ i = 4 ∨ i = 5 ∨ i = 6 ∨ i = 7 := by omega
      rcases cs with rfl | rfl | rfl | rfl | rfl | rfl | rfl | rfl
      · show evP E196 G196 _ (lp196 3) (st196 a0 a1 a2 a3 a4 a5 a6 a7 a8 a9 a10 a11 a12 a13 a14 a15 a16 a17 a18 a19 a20 a21 a22 a23 0 0 0 0 0 0 0 0 0 0 0 0 0 0 0 0 0 0 0 0 0 0 0 0 0) (rk196 _ _ 3 _)
        rw [b196_0]
        exact next
      · show evP E196 G196 _ (lp196 3) (st196 a0 a1 a2 a3 a4 a5 a6 a7 a8 a9 a10 a11 a12 a13 a14 a15 a16 a17 a18 a19 a20 a21 a22 a23 1 a0 a1 a2 0 0 0 0 0 0 0 0 0 0 0 0 0 0 0 0 0 0 0 0 0) (rk196 _ _ 3 _)
        rw [b196_1]
        exact next
      · show evP E196 G196 _ (lp196 3) (st196 a0 a1 a2 a3 a4 a5 a6 a7 a8 a9 a10 a11 a12 a13 a14 a15 a16 a17 a18 a19 a20 a21 a22 a23 2 a0 a1 a2 a3 a4 a5 0 0 0 0 0 0 0 0 0 0 0 0 0 0 0 0 0 0) (rk196 _ _ 3 _)
        rw [b196_2]
        exact next
      · show evP E196 G196 _ (lp196 3) (st196 a0 a1 a2 a3 a4 a5 a6 a7 a8 a9 a10 a11 a12 a13 a14 a15 a16 a17 a18 a19 a20 a21 a22 a23 3 a0 a1 a2 a3 a4 a5 a6 a7 a8 0 0 0 0 0 0 0 0 0 0 0 0 0 0 0) (rk196 _ _ 3 _)
        rw [b196_3]
        exact next
      · show evP E196 G196 _ (lp196 3) (st196 a0 a1 a2 a3 a4 a5 a6 a7 a8 a9 a10 a11 a12 a13 a14 a15 a16 a17 a18 a19 a20 a21 a22 a23 4 a0 a1 a2 a3 a4 a5 a6 a7 a8 a9 a10 a11 0 0 0 0 0 0 0 0 0 0 0 0) (rk196 _ _ 3 _)
        rw [b196_4]
        exact next
      · show evP E196 G196 _ (lp196 3) (st196 a0 a1 a2 a3 a4 a5 a6 a7 a8 a9 a10 a11 a12 a13 a14 a15 a16 a17 a18 a19 a20 a21 a22 a23 5 a0 a1 a2 a3 a4 a5 a6 a7 a8 a9 a10 a11 a12 a13 a14 0 0 0 0 0 0 0 0 0) (rk196 _ _ 3 _)
        rw [b196_5]
        exact next
      · show evP E196 G196 _ (lp196 3) (st196 a0 a1 a2 a3 a4 a5 a6 a7 a8 a9 a10 a11 a12 a13 a14 a15 a16 a17 a18 a19 a20 a21 a22 a23 6 a0 a1 a2 a3 a4 a5 a6 a7 a8 a9 a10 a11 a12 a13 a14 a15 a16 a17 0 0 0 0 0 0) (rk196 _ _ 3 _)
        rw [b196_6]
        exact next
      · show evP E196 G196 _ (lp196 3) (st196 a0 a1 a2 a3 a4 a5 a6 a7 a8 a9 a10 a11 a12 a13 a14 a15 a16 a17 a18 a19 a20 a21 a22 a23 7 a0 a1 a2 a3 a4 a5 a6 a7 a8 a9 a10 a11 a12 a13 a14 a15 a16 a17 a18 a19 a20 0 0 0) (rk196 _ _ 3 _)
        rw [b196_7]
        exact next
    · show evP E196 G196 _ (lp196 3) (st196 a0 a1 a2 a3 a4 a5 a6 a7 a8 a9 a10 a11 a12 a13 a14 a15 a16 a17 a18 a19 a20 a21 a22 a23 8 a0 a1 a2 a3 a4 a5 a6 a7 a8 a9 a10 a11 a12 a13 a14 a15 a16 a17 a18 a19 a20 a21 a22 a23) (rk196 _ _ 3 _)
      rw [b196_8]
      rfl
  · exact h.elim
def g126 : G1
  | [.agg us], [], k => match elemOf kc us with
    | some a => k ⟨.agg ((vals kc a).map .val), [], []⟩
    | none => False
  | _, _, _ => False
noncomputable def E126 : Env := E0.of Tryz.f126
noncomputable def G126 : Gk := gk [(196, g196), (128, g128)]
noncomputable def lp126 (n : Nat) : Code := (loopOf n (codeOf Tryz.f126)).getD .skip
noncomputable def ct126 (L : Lp) (R : Option Res → Prop) (n : Nat) : Kt := contOf E126 G126 L n (codeOf Tryz.f126) (endK E126 Tryz.f126.results.toList R)
noncomputable def rk126 (L : Lp) (R : Option Res → Prop) (n : Nat) (N : St → Prop) : Kt := rk (jof E126 (lp126 n)) N (ct126 L R n)
noncomputable def rkn126 (L : Lp) (R : Option Res → Prop) (n : Nat) (N : St → Prop) (m : Nat) (N2 : St → Prop) : Kt := rk (jof E126 (lp126 m)) N2 (contOf E126 G126 L m (lp126 n) (rk126 L R n N))
noncomputable def LOOPN126 (L : Lp) (R : Option Res → Prop) (n : Nat) (N : St → Prop) (m : Nat) (st : St) : Prop := L (lp126 m) st (contOf E126 G126 L m (lp126 n) (rk126 L R n N))
noncomputable def LOOP126 (L : Lp) (R : Option Res → Prop) (n : Nat) (st : St) : Prop := L (lp126 n) st (ct126 L R n)
theorem hg126 : HG Tryz.prog G126 := (hg_cons h196 (hg_cons h128 hg_nil))
theorem okf126 : Ok Tryz.prog E126 := ok0.of Tryz.f126
theorem e126 (L : Lp) (R : Option Res → Prop) (a0 : ByteArray) (a1 : Int) (a2 : ByteArray) (a3 : Int) (a4 : Int) (a5 : Int) (a6 : Int) (a7 : Int) (a8 : Int) (a9 : Int) (a10 : Int) (a11 : Int) (a12 : Int) (a13 : Int) (a14 : Int) (a15 : Int) (a16 : Int) (a17 : Int) (a18 : Int) (a19 : Int) (a20 : Int) (a21 : Int) (a22 : Int) (a23 : Int) (a24 : Int) (a25 : Int) (a26 : Int) (a27 : Int) (a28 : Int) (a29 : Int) (a30 : Bool) : (bodyP E0 G126 L Tryz.f126 [.agg [.val (.string a0), .val (.int .i64 a1), .val (.string a2), .val (.int .i64 a3), .val (.int .i64 a4), .val (.int .i64 a5), .val (.int .i64 a6), .val (.int .i64 a7), .val (.int .i64 a8), .val (.int .i64 a9), .val (.int .i64 a10), .val (.int .i64 a11), .val (.int .i64 a12), .val (.int .i64 a13), .val (.int .i64 a14), .val (.int .i64 a15), .val (.int .i64 a16), .val (.int .i64 a17), .val (.int .i64 a18), .val (.int .i64 a19), .val (.int .i64 a20), .val (.int .i64 a21), .val (.int .i64 a22), .val (.int .i64 a23), .val (.int .i64 a24), .val (.int .i64 a25), .val (.int .i64 a26), .val (.int .i64 a27), .val (.int .i64 a28), .val (.int .i64 a29), .val (.bool a30)]] [] R) = (
    R (some { av := AV.agg [vS a0, vI a1, vS a2, vI (a3, a4, a5, a6, a7, a8, a9, a10, a11, a12, a13, a14, a15, a16, a17, a18, a19, a20, a21, a22, a23, a24, a25, a26, ()).fst, vI (a3, a4, a5, a6, a7, a8, a9, a10, a11, a12, a13, a14, a15, a16, a17, a18, a19, a20, a21, a22, a23, a24, a25, a26, ()).snd.fst, vI (a3, a4, a5, a6, a7, a8, a9, a10, a11, a12, a13, a14, a15, a16, a17, a18, a19, a20, a21, a22, a23, a24, a25, a26, ()).snd.snd.fst, vI (a3, a4, a5, a6, a7, a8, a9, a10, a11, a12, a13, a14, a15, a16, a17, a18, a19, a20, a21, a22, a23, a24, a25, a26, ()).snd.snd.snd.fst, vI (a3, a4, a5, a6, a7, a8, a9, a10, a11, a12, a13, a14, a15, a16, a17, a18, a19, a20, a21, a22, a23, a24, a25, a26, ()).snd.snd.snd.snd.fst, vI (a3, a4, a5, a6, a7, a8, a9, a10, a11, a12, a13, a14, a15, a16, a17, a18, a19, a20, a21, a22, a23, a24, a25, a26, ()).snd.snd.snd.snd.snd.fst, vI (a3, a4, a5, a6, a7, a8, a9, a10, a11, a12, a13, a14, a15, a16, a17, a18, a19, a20, a21, a22, a23, a24, a25, a26, ()).snd.snd.snd.snd.snd.snd.fst, vI (a3, a4, a5, a6, a7, a8, a9, a10, a11, a12, a13, a14, a15, a16, a17, a18, a19, a20, a21, a22, a23, a24, a25, a26, ()).snd.snd.snd.snd.snd.snd.snd.fst, vI (a3, a4, a5, a6, a7, a8, a9, a10, a11, a12, a13, a14, a15, a16, a17, a18, a19, a20, a21, a22, a23, a24, a25, a26, ()).snd.snd.snd.snd.snd.snd.snd.snd.fst, vI (a3, a4, a5, a6, a7, a8, a9, a10, a11, a12, a13, a14, a15, a16, a17, a18, a19, a20, a21, a22, a23, a24, a25, a26, ()).snd.snd.snd.snd.snd.snd.snd.snd.snd.fst, vI (a3, a4, a5, a6, a7, a8, a9, a10, a11, a12, a13, a14, a15, a16, a17, a18, a19, a20, a21, a22, a23, a24, a25, a26, ()).snd.snd.snd.snd.snd.snd.snd.snd.snd.snd.fst, vI (a3, a4, a5, a6, a7, a8, a9, a10, a11, a12, a13, a14, a15, a16, a17, a18, a19, a20, a21, a22, a23, a24, a25, a26, ()).snd.snd.snd.snd.snd.snd.snd.snd.snd.snd.snd.fst, vI (a3, a4, a5, a6, a7, a8, a9, a10, a11, a12, a13, a14, a15, a16, a17, a18, a19, a20, a21, a22, a23, a24, a25, a26, ()).snd.snd.snd.snd.snd.snd.snd.snd.snd.snd.snd.snd.fst, vI (a3, a4, a5, a6, a7, a8, a9, a10, a11, a12, a13, a14, a15, a16, a17, a18, a19, a20, a21, a22, a23, a24, a25, a26, ()).snd.snd.snd.snd.snd.snd.snd.snd.snd.snd.snd.snd.snd.fst, vI (a3, a4, a5, a6, a7, a8, a9, a10, a11, a12, a13, a14, a15, a16, a17, a18, a19, a20, a21, a22, a23, a24, a25, a26, ()).snd.snd.snd.snd.snd.snd.snd.snd.snd.snd.snd.snd.snd.snd.fst, vI (a3, a4, a5, a6, a7, a8, a9, a10, a11, a12, a13, a14, a15, a16, a17, a18, a19, a20, a21, a22, a23, a24, a25, a26, ()).snd.snd.snd.snd.snd.snd.snd.snd.snd.snd.snd.snd.snd.snd.snd.fst, vI (a3, a4, a5, a6, a7, a8, a9, a10, a11, a12, a13, a14, a15, a16, a17, a18, a19, a20, a21, a22, a23, a24, a25, a26, ()).snd.snd.snd.snd.snd.snd.snd.snd.snd.snd.snd.snd.snd.snd.snd.snd.fst, vI (a3, a4, a5, a6, a7, a8, a9, a10, a11, a12, a13, a14, a15, a16, a17, a18, a19, a20, a21, a22, a23, a24, a25, a26, ()).snd.snd.snd.snd.snd.snd.snd.snd.snd.snd.snd.snd.snd.snd.snd.snd.snd.fst, vI (a3, a4, a5, a6, a7, a8, a9, a10, a11, a12, a13, a14, a15, a16, a17, a18, a19, a20, a21, a22, a23, a24, a25, a26, ()).snd.snd.snd.snd.snd.snd.snd.snd.snd.snd.snd.snd.snd.snd.snd.snd.snd.snd.fst, vI (a3, a4, a5, a6, a7, a8, a9, a10, a11, a12, a13, a14, a15, a16, a17, a18, a19, a20, a21, a22, a23, a24, a25, a26, ()).snd.snd.snd.snd.snd.snd.snd.snd.snd.snd.snd.snd.snd.snd.snd.snd.snd.snd.snd.fst, vI (a3, a4, a5, a6, a7, a8, a9, a10, a11, a12, a13, a14, a15, a16, a17, a18, a19, a20, a21, a22, a23, a24, a25, a26, ()).snd.snd.snd.snd.snd.snd.snd.snd.snd.snd.snd.snd.snd.snd.snd.snd.snd.snd.snd.snd.fst, vI (a3, a4, a5, a6, a7, a8, a9, a10, a11, a12, a13, a14, a15, a16, a17, a18, a19, a20, a21, a22, a23, a24, a25, a26, ()).snd.snd.snd.snd.snd.snd.snd.snd.snd.snd.snd.snd.snd.snd.snd.snd.snd.snd.snd.snd.snd.fst, vI (a3, a4, a5, a6, a7, a8, a9, a10, a11, a12, a13, a14, a15, a16, a17, a18, a19, a20, a21, a22, a23, a24, a25, a26, ()).snd.snd.snd.snd.snd.snd.snd.snd.snd.snd.snd.snd.snd.snd.snd.snd.snd.snd.snd.snd.snd.snd.fst, vI (a3, a4, a5, a6, a7, a8, a9, a10, a11, a12, a13, a14, a15, a16, a17, a18, a19, a20, a21, a22, a23, a24, a25, a26, ()).snd.snd.snd.snd.snd.snd.snd.snd.snd.snd.snd.snd.snd.snd.snd.snd.snd.snd.snd.snd.snd.snd.snd.fst, vI a27, vI a28, vI a29, vB a30], obs := [], outs := [] })) := by kernel_rfl
theorem h126 : G1Ok Tryz.prog 126 g126 := by
  intro args obs k h
  unfold g126 at h
  split at h
  · rename_i k us
    split at h
    rotate_left
    · exact h.elim
    rename_i a ha
    obtain rfl := elemOf_inv ha
    obtain ⟨a0, a1, a2, a3, a4, a5, a6, a7, a8, a9, a10, a11, a12, a13, a14, a15, a16, a17, a18, a19, a20, a21, a22, a23, a24, a25, a26, a27, a28, a29, a30, ⟨⟩⟩ := a
    refine ⟨_, ctr_fn ok0 hg126 Tryz.func126 (by kernel_rfl) (by kernel_rfl) (by kernel_rfl) fun C => ?_, h⟩
    show bodyP E0 G126 _ Tryz.f126 [.agg [.val (.string a0), .val (.int .i64 a1), .val (.string a2), .val (.int .i64 a3), .val (.int .i64 a4), .val (.int .i64 a5), .val (.int .i64 a6), .val (.int .i64 a7), .val (.int .i64 a8), .val (.int .i64 a9), .val (.int .i64 a10), .val (.int .i64 a11), .val (.int .i64 a12), .val (.int .i64 a13), .val (.int .i64 a14), .val (.int .i64 a15), .val (.int .i64 a16), .val (.int .i64 a17), .val (.int .i64 a18), .val (.int .i64 a19), .val (.int .i64 a20), .val (.int .i64 a21), .val (.int .i64 a22), .val (.int .i64 a23), .val (.int .i64 a24), .val (.int .i64 a25), .val (.int .i64 a26), .val (.int .i64 a27), .val (.int .i64 a28), .val (.int .i64 a29), .val (.bool a30)]] [] _
    rw [e126]
    rfl
  · exact h.elim
def g54 : G1
  | [.rsl cxs xs0], [], k => match castE kc cxs xs0 with
    | some xs => br (decide (xs.length ≤ 1048576)) (k ⟨.ows 0, [.row kc xs], []⟩) False
    | _ => False
  | _, _, _ => False
noncomputable def E54 : Env := E0.of Tryz.f54
noncomputable def G54 : Gk := gk [(126, g126)]
noncomputable def lp54 (n : Nat) : Code := (loopOf n (codeOf Tryz.f54)).getD .skip
noncomputable def ct54 (L : Lp) (R : Option Res → Prop) (n : Nat) : Kt := contOf E54 G54 L n (codeOf Tryz.f54) (endK E54 Tryz.f54.results.toList R)
noncomputable def rk54 (L : Lp) (R : Option Res → Prop) (n : Nat) (N : St → Prop) : Kt := rk (jof E54 (lp54 n)) N (ct54 L R n)
noncomputable def rkn54 (L : Lp) (R : Option Res → Prop) (n : Nat) (N : St → Prop) (m : Nat) (N2 : St → Prop) : Kt := rk (jof E54 (lp54 m)) N2 (contOf E54 G54 L m (lp54 n) (rk54 L R n N))
noncomputable def LOOPN54 (L : Lp) (R : Option Res → Prop) (n : Nat) (N : St → Prop) (m : Nat) (st : St) : Prop := L (lp54 m) st (contOf E54 G54 L m (lp54 n) (rk54 L R n N))
noncomputable def LOOP54 (L : Lp) (R : Option Res → Prop) (n : Nat) (st : St) : Prop := L (lp54 n) st (ct54 L R n)
theorem hg54 : HG Tryz.prog G54 := (hg_cons h126 hg_nil)
theorem okf54 : Ok Tryz.prog E54 := ok0.of Tryz.f54
theorem e54 (L : Lp) (R : Option Res → Prop) (xs : List (Elem kc)) : (bodyP E0 G54 L Tryz.f54 [.rsl kc xs] [] R) = (
    br (decide (0 ≤ (↑xs.length : Int) ∧ (↑xs.length : Int) ≤ (↑xs.length : Int) ∧ 264 * (↑xs.length : Int) ≤ 281474976710656)) (LOOP54 L R 3 { tm := [AV.rsl kc xs, vU, AV.ows 0, AV.ows 1, vI 0, vJ, vJ, vJ, vJ, vJ, vJ, vJ, vJ, vJ, vJ, vJ, vJ, vJ, vJ, vJ, vJ, vJ, vU], ob := [(0, AO.row kc []), (1, AO.row kc (List.replicate (↑xs.length : Int).toNat (edflt kc)))], nx := 1000000, ps := [] }) False) := by kernel_rfl
def st54 (xs : List (Elem kc)) (i : Int) (ys : List (Elem kc)) : St :=  ⟨[AV.rsl kc xs, vU, AV.ows 0, AV.ows 1, .val (.int .i64 i), vJ, vJ, vJ, vJ, vJ, vJ, vJ, vJ, vJ, vJ, vJ, vJ, vJ, vJ, vJ, vJ, vJ, vU], [(0, AO.row kc []), (1, .row kc ys)], 1000000, []⟩
theorem b54 (L : Lp) (R : Option Res → Prop) (N : St → Prop) (xs : List (Elem kc)) (i : Int) (ys : List (Elem kc)) : (evP E54 G54 L (lp54 3) (st54 xs i ys) (rk54 L R 3 N)) = (
    br (decide (i < (↑xs.length : Int))) (br (decide (0 ≤ i ∧ i < (↑xs.length : Int))) (br (decide (0 ≤ i ∧ i < (↑ys.length : Int))) (N { tm := [AV.rsl kc xs, vU, AV.ows 0, AV.ows 1, vI (IntKind.i64.wrap (i + 1)), vJ, vJ, vJ, vJ, vJ, vJ, vJ, vJ, vJ, vJ, vJ, vJ, vJ, vJ, vJ, vJ, vJ, vU], ob := [(0, AO.row kc []), (1, AO.row kc (ys.set i.toNat (xs.getD i.toNat (edflt kc))))], nx := 1000000, ps := [] }) False) False) (R (some { av := AV.ows 0, obs := [AO.row kc ys], outs := [] }))) := by kernel_rfl
theorem h54 : G1Ok Tryz.prog 54 g54 := by
  intro args obs k h
  unfold g54 at h
  split at h
  · rename_i k cxs xs0
    split at h
    rotate_left
    · exact h.elim
    rename_i xs hxs
    cases castE_inv hxs
    obtain ⟨hlen, h⟩ := brd h
    refine ⟨_, ctr_fn ok0 hg54 Tryz.func54 (by kernel_rfl) (by kernel_rfl) (by kernel_rfl) fun C => ?_, h⟩
    rw [e54]
    refine br_yes ⟨by omega, by omega, by omega⟩ ?_
    exact loopUp okf54 hg54 (fun i ys => st54 xs i ys) xs.length (Cp xs) (fun N i ys hi hc next => by
      show evP E54 G54 _ (lp54 3) (st54 xs i ys) (rk54 _ _ 3 _)
      rw [b54, wrap_id (n := (i : Int) + 1) (by omega) (by omega), Int.toNat_natCast]
      have hl := hc.len
      refine br_dec (fun h2 => ?_) (fun h2 => ?_)
      · refine br_yes ⟨by omega, h2⟩ (br_yes ⟨by omega, by omega⟩ ?_)
        exact next (by omega) _ (hc.next (by omega))
      · show _ = _
        rw [hc.done (by omega)]) _ (Cp.zero xs _)
  · exact h.elim
def g56 : G1
  | [.rsl [.int .i64, .int .i64, .int .i64] xs], [], k => br (decide (xs.length ≤ 1048576)) (k ⟨.ows 0, [.row k3 xs], []⟩) False
  | _, _, _ => False
noncomputable def E56 : Env := E0.of Tryz.f56
noncomputable def G56 : Gk := gk [(128, g128)]
noncomputable def lp56 (n : Nat) : Code := (loopOf n (codeOf Tryz.f56)).getD .skip
noncomputable def ct56 (L : Lp) (R : Option Res → Prop) (n : Nat) : Kt := contOf E56 G56 L n (codeOf Tryz.f56) (endK E56 Tryz.f56.results.toList R)
noncomputable def rk56 (L : Lp) (R : Option Res → Prop) (n : Nat) (N : St → Prop) : Kt := rk (jof E56 (lp56 n)) N (ct56 L R n)
noncomputable def rkn56 (L : Lp) (R : Option Res → Prop) (n : Nat) (N : St → Prop) (m : Nat) (N2 : St → Prop) : Kt := rk (jof E56 (lp56 m)) N2 (contOf E56 G56 L m (lp56 n) (rk56 L R n N))
noncomputable def LOOPN56 (L : Lp) (R : Option Res → Prop) (n : Nat) (N : St → Prop) (m : Nat) (st : St) : Prop := L (lp56 m) st (contOf E56 G56 L m (lp56 n) (rk56 L R n N))
noncomputable def LOOP56 (L : Lp) (R : Option Res → Prop) (n : Nat) (st : St) : Prop := L (lp56 n) st (ct56 L R n)
theorem hg56 : HG Tryz.prog G56 := (hg_cons h128 hg_nil)
theorem okf56 : Ok Tryz.prog E56 := ok0.of Tryz.f56
theorem e56 (L : Lp) (R : Option Res → Prop) (xs : List (Elem k3)) : (bodyP E0 G56 L Tryz.f56 [.rsl k3 xs] [] R) = (
    br (decide (0 ≤ (↑xs.length : Int) ∧ (↑xs.length : Int) ≤ (↑xs.length : Int) ∧ 24 * (↑xs.length : Int) ≤ 281474976710656)) (LOOP56 L R 3 { tm := [AV.rsl k3 xs, vU, AV.ows 0, AV.ows 1, vI 0, vJ, vJ, vJ, vJ, vJ, vJ, vJ, vJ, vJ, vJ, vJ, vJ, vJ, vJ, vJ, vJ, vJ, vU], ob := [(0, AO.row k3 []), (1, AO.row k3 (List.replicate (↑xs.length : Int).toNat (edflt k3)))], nx := 1000000, ps := [] }) False) := by kernel_rfl
def st56 (xs : List (Elem k3)) (i : Int) (ys : List (Elem k3)) : St :=  ⟨[AV.rsl k3 xs, vU, AV.ows 0, AV.ows 1, .val (.int .i64 i), vJ, vJ, vJ, vJ, vJ, vJ, vJ, vJ, vJ, vJ, vJ, vJ, vJ, vJ, vJ, vJ, vJ, vU], [(0, AO.row k3 []), (1, .row k3 ys)], 1000000, []⟩
theorem b56 (L : Lp) (R : Option Res → Prop) (N : St → Prop) (xs : List (Elem k3)) (i : Int) (ys : List (Elem k3)) : (evP E56 G56 L (lp56 3) (st56 xs i ys) (rk56 L R 3 N)) = (
    br (decide (i < (↑xs.length : Int))) (br (decide (0 ≤ i ∧ i < (↑xs.length : Int))) (br (decide (0 ≤ i ∧ i < (↑ys.length : Int))) (N { tm := [AV.rsl k3 xs, vU, AV.ows 0, AV.ows 1, vI (IntKind.i64.wrap (i + 1)), vJ, vJ, vJ, vJ, vJ, vJ, vJ, vJ, vJ, vJ, vJ, vJ, vJ, vJ, vJ, vJ, vJ, vU], ob := [(0, AO.row k3 []), (1, AO.row k3 (ys.set i.toNat (xs.getD i.toNat (edflt k3))))], nx := 1000000, ps := [] }) False) False) (R (some { av := AV.ows 0, obs := [AO.row k3 ys], outs := [] }))) := by kernel_rfl
theorem h56 : G1Ok Tryz.prog 56 g56 := by
  intro args obs k h
  unfold g56 at h
  split at h
  · rename_i k xs
    obtain ⟨hlen, h⟩ := brd h
    refine ⟨_, ctr_fn ok0 hg56 Tryz.func56 (by kernel_rfl) (by kernel_rfl) (by kernel_rfl) fun C => ?_, h⟩
    rw [e56]
    refine br_yes ⟨by omega, by omega, by omega⟩ ?_
    exact loopUp okf56 hg56 (fun i ys => st56 xs i ys) xs.length (Cp xs) (fun N i ys hi hc next => by
      show evP E56 G56 _ (lp56 3) (st56 xs i ys) (rk56 _ _ 3 _)
      rw [b56, wrap_id (n := (i : Int) + 1) (by omega) (by omega), Int.toNat_natCast]
      have hl := hc.len
      refine br_dec (fun h2 => ?_) (fun h2 => ?_)
      · refine br_yes ⟨by omega, h2⟩ (br_yes ⟨by omega, by omega⟩ ?_)
        exact next (by omega) _ (hc.next (by omega))
      · show _ = _
        rw [hc.done (by omega)]) _ (Cp.zero xs _)
  · exact h.elim
def g57 : G1
  | [.rsl [.int .i64] xs], [], k => br (decide (xs.length ≤ 1048576)) (k ⟨.ows 0, [.row ki xs], []⟩) False
  | _, _, _ => False
noncomputable def E57 : Env := E0.of Tryz.f57
noncomputable def G57 : Gk := gk []
noncomputable def lp57 (n : Nat) : Code := (loopOf n (codeOf Tryz.f57)).getD .skip
noncomputable def ct57 (L : Lp) (R : Option Res → Prop) (n : Nat) : Kt := contOf E57 G57 L n (codeOf Tryz.f57) (endK E57 Tryz.f57.results.toList R)
noncomputable def rk57 (L : Lp) (R : Option Res → Prop) (n : Nat) (N : St → Prop) : Kt := rk (jof E57 (lp57 n)) N (ct57 L R n)
noncomputable def rkn57 (L : Lp) (R : Option Res → Prop) (n : Nat) (N : St → Prop) (m : Nat) (N2 : St → Prop) : Kt := rk (jof E57 (lp57 m)) N2 (contOf E57 G57 L m (lp57 n) (rk57 L R n N))
noncomputable def LOOPN57 (L : Lp) (R : Option Res → Prop) (n : Nat) (N : St → Prop) (m : Nat) (st : St) : Prop := L (lp57 m) st (contOf E57 G57 L m (lp57 n) (rk57 L R n N))
noncomputable def LOOP57 (L : Lp) (R : Option Res → Prop) (n : Nat) (st : St) : Prop := L (lp57 n) st (ct57 L R n)
theorem hg57 : HG Tryz.prog G57 := hg_nil
theorem okf57 : Ok Tryz.prog E57 := ok0.of Tryz.f57
theorem e57 (L : Lp) (R : Option Res → Prop) (xs : List (Elem ki)) : (bodyP E0 G57 L Tryz.f57 [.rsl ki xs] [] R) = (
    br (decide (0 ≤ (↑xs.length : Int) ∧ (↑xs.length : Int) ≤ (↑xs.length : Int) ∧ 8 * (↑xs.length : Int) ≤ 281474976710656)) (LOOP57 L R 3 { tm := [AV.rsl ki xs, vU, AV.ows 0, AV.ows 1, vI 0, vJ, vJ, vJ, vJ, vJ, vJ, vJ, vJ, vJ, vJ, vJ, vJ, vJ, vJ, vJ, vJ, vU], ob := [(0, AO.row ki []), (1, AO.row ki (List.replicate (↑xs.length : Int).toNat (edflt ki)))], nx := 1000000, ps := [] }) False) := by kernel_rfl
def st57 (xs : List (Elem ki)) (i : Int) (ys : List (Elem ki)) : St :=  ⟨[AV.rsl ki xs, vU, AV.ows 0, AV.ows 1, .val (.int .i64 i), vJ, vJ, vJ, vJ, vJ, vJ, vJ, vJ, vJ, vJ, vJ, vJ, vJ, vJ, vJ, vJ, vU], [(0, AO.row ki []), (1, .row ki ys)], 1000000, []⟩
theorem b57 (L : Lp) (R : Option Res → Prop) (N : St → Prop) (xs : List (Elem ki)) (i : Int) (ys : List (Elem ki)) : (evP E57 G57 L (lp57 3) (st57 xs i ys) (rk57 L R 3 N)) = (
    br (decide (i < (↑xs.length : Int))) (br (decide (0 ≤ i ∧ i < (↑xs.length : Int))) (br (decide (0 ≤ i ∧ i < (↑ys.length : Int))) (N { tm := [AV.rsl ki xs, vU, AV.ows 0, AV.ows 1, vI (IntKind.i64.wrap (i + 1)), vJ, vJ, vJ, vJ, vJ, vJ, vJ, vJ, vJ, vJ, vJ, vJ, vJ, vJ, vJ, vJ, vU], ob := [(0, AO.row ki []), (1, AO.row ki (ys.set i.toNat (xs.getD i.toNat (edflt ki))))], nx := 1000000, ps := [] }) False) False) (R (some { av := AV.ows 0, obs := [AO.row ki ys], outs := [] }))) := by kernel_rfl
theorem h57 : G1Ok Tryz.prog 57 g57 := by
  intro args obs k h
  unfold g57 at h
  split at h
  · rename_i k xs
    obtain ⟨hlen, h⟩ := brd h
    refine ⟨_, ctr_fn ok0 hg57 Tryz.func57 (by kernel_rfl) (by kernel_rfl) (by kernel_rfl) fun C => ?_, h⟩
    rw [e57]
    refine br_yes ⟨by omega, by omega, by omega⟩ ?_
    exact loopUp okf57 hg57 (fun i ys => st57 xs i ys) xs.length (Cp xs) (fun N i ys hi hc next => by
      show evP E57 G57 _ (lp57 3) (st57 xs i ys) (rk57 _ _ 3 _)
      rw [b57, wrap_id (n := (i : Int) + 1) (by omega) (by omega), Int.toNat_natCast]
      have hl := hc.len
      refine br_dec (fun h2 => ?_) (fun h2 => ?_)
      · refine br_yes ⟨by omega, h2⟩ (br_yes ⟨by omega, by omega⟩ ?_)
        exact next (by omega) _ (hc.next (by omega))
      · show _ = _
        rw [hc.done (by omega)]) _ (Cp.zero xs _)
  · exact h.elim
end Go.Proofs.YtkjnijddbiconaaGreatDoor.Ev

