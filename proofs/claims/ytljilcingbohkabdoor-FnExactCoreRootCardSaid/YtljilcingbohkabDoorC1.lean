/- Contracts for cores: sizes, copies. -/
import Derived.Test.YtljilcingbohkabDoorD5
import Derived.Test.YtljilcingbohkabDoorD12
namespace Go.Proofs.YtljilcingbohkabDoor.Ev
open Go
set_option linter.unusedVariables false
set_option linter.unusedSimpArgs false
set_option maxRecDepth 100000
abbrev kc : List CK := [.str, .int .i64, .str, .int .i64, .int .i64, .int .i64, .int .i64, .int .i64, .int .i64, .int .i64, .int .i64, .int .i64, .int .i64, .int .i64, .int .i64, .int .i64, .int .i64, .int .i64, .int .i64, .int .i64, .int .i64, .int .i64, .int .i64, .int .i64, .int .i64, .int .i64, .int .i64, .int .i64, .int .i64, .int .i64, .bool]

def szC (e : Elem kc) : Nat := e.1.size + e.2.2.1.size
def inC (e : Elem kc) : Bool := inS e.1 && inS e.2.2.1
def g48 : G1
  | [.rsl [.int .i64, .int .i64, .int .i64] xs, .val (.int .i64 l)], [], k => br (decide (xs.length ≤ 9223372036854775807) && inL l) (k ⟨.val (.int .i64 (szR l xs.length)), [], []⟩) False
  | _, _, _ => False
noncomputable def E48 : Env := E0.of Tryd.f48
noncomputable def G48 : Gk := gk []
noncomputable def lp48 (n : Nat) : Code := (loopOf n (codeOf Tryd.f48)).getD .skip
noncomputable def ct48 (L : Lp) (R : Option Res → Prop) (n : Nat) : Kt := contOf E48 G48 L n (codeOf Tryd.f48) (endK E48 Tryd.f48.results.toList R)
noncomputable def rk48 (L : Lp) (R : Option Res → Prop) (n : Nat) (N : St → Prop) : Kt := rk (jof E48 (lp48 n)) N (ct48 L R n)
noncomputable def rkn48 (L : Lp) (R : Option Res → Prop) (n : Nat) (N : St → Prop) (m : Nat) (N2 : St → Prop) : Kt := rk (jof E48 (lp48 m)) N2 (contOf E48 G48 L m (lp48 n) (rk48 L R n N))
noncomputable def LOOPN48 (L : Lp) (R : Option Res → Prop) (n : Nat) (N : St → Prop) (m : Nat) (st : St) : Prop := L (lp48 m) st (contOf E48 G48 L m (lp48 n) (rk48 L R n N))
noncomputable def LOOP48 (L : Lp) (R : Option Res → Prop) (n : Nat) (st : St) : Prop := L (lp48 n) st (ct48 L R n)
theorem hg48 : HG Tryd.prog G48 := hg_nil
theorem okf48 : Ok Tryd.prog E48 := ok0.of Tryd.f48
theorem e48 (L : Lp) (R : Option Res → Prop) (xs : List (Elem k3)) (l : Int) : (bodyP E0 G48 L Tryd.f48 [.rsl k3 xs, .val (.int .i64 l)] [] R) = (
    br (decide (IntKind.i64.wrap (l - (↑xs.length : Int)) < 0)) (R (some { av := vI (-1), obs := [], outs := [] })) (R (some { av := vI (IntKind.i64.wrap (l - (↑xs.length : Int))), obs := [], outs := [] }))) := by kernel_rfl
theorem h48 : G1Ok Tryd.prog 48 g48 := by
  intro args obs k h
  unfold g48 at h
  split at h
  · rename_i k xs l
    obtain ⟨hp, hl, h⟩ := brb2 h
    simp only [inL, decide_eq_true_eq] at hl hp
    refine ⟨_, ctr_fn ok0 hg48 Tryd.func48 (by kernel_rfl) (by kernel_rfl) (by kernel_rfl) fun C => ?_, h⟩
    rw [e48]
    rw [wrap_id (n := l - xs.length) (by omega) (by omega)]
    refine br_dec (fun h => ?_) (fun h => ?_)
    · show _ = _
      rw [szR_neg (by omega)]
    · show _ = _
      rw [szR_pos (by omega)]
  · exact h.elim
def g49 : G1
  | [.rsl [.int .i64] xs, .val (.int .i64 l)], [], k => br (decide (xs.length ≤ 9223372036854775807) && inL l) (k ⟨.val (.int .i64 (szR l xs.length)), [], []⟩) False
  | _, _, _ => False
noncomputable def E49 : Env := E0.of Tryd.f49
noncomputable def G49 : Gk := gk []
noncomputable def lp49 (n : Nat) : Code := (loopOf n (codeOf Tryd.f49)).getD .skip
noncomputable def ct49 (L : Lp) (R : Option Res → Prop) (n : Nat) : Kt := contOf E49 G49 L n (codeOf Tryd.f49) (endK E49 Tryd.f49.results.toList R)
noncomputable def rk49 (L : Lp) (R : Option Res → Prop) (n : Nat) (N : St → Prop) : Kt := rk (jof E49 (lp49 n)) N (ct49 L R n)
noncomputable def rkn49 (L : Lp) (R : Option Res → Prop) (n : Nat) (N : St → Prop) (m : Nat) (N2 : St → Prop) : Kt := rk (jof E49 (lp49 m)) N2 (contOf E49 G49 L m (lp49 n) (rk49 L R n N))
noncomputable def LOOPN49 (L : Lp) (R : Option Res → Prop) (n : Nat) (N : St → Prop) (m : Nat) (st : St) : Prop := L (lp49 m) st (contOf E49 G49 L m (lp49 n) (rk49 L R n N))
noncomputable def LOOP49 (L : Lp) (R : Option Res → Prop) (n : Nat) (st : St) : Prop := L (lp49 n) st (ct49 L R n)
theorem hg49 : HG Tryd.prog G49 := hg_nil
theorem okf49 : Ok Tryd.prog E49 := ok0.of Tryd.f49
theorem e49 (L : Lp) (R : Option Res → Prop) (xs : List (Elem ki)) (l : Int) : (bodyP E0 G49 L Tryd.f49 [.rsl ki xs, .val (.int .i64 l)] [] R) = (
    br (decide (IntKind.i64.wrap (l - (↑xs.length : Int)) < 0)) (R (some { av := vI (-1), obs := [], outs := [] })) (R (some { av := vI (IntKind.i64.wrap (l - (↑xs.length : Int))), obs := [], outs := [] }))) := by kernel_rfl
theorem h49 : G1Ok Tryd.prog 49 g49 := by
  intro args obs k h
  unfold g49 at h
  split at h
  · rename_i k xs l
    obtain ⟨hp, hl, h⟩ := brb2 h
    simp only [inL, decide_eq_true_eq] at hl hp
    refine ⟨_, ctr_fn ok0 hg49 Tryd.func49 (by kernel_rfl) (by kernel_rfl) (by kernel_rfl) fun C => ?_, h⟩
    rw [e49]
    rw [wrap_id (n := l - xs.length) (by omega) (by omega)]
    refine br_dec (fun h => ?_) (fun h => ?_)
    · show _ = _
      rw [szR_neg (by omega)]
    · show _ = _
      rw [szR_pos (by omega)]
  · exact h.elim
def g23s : G1
  | [.rsl [.int .i64, .int .i64, .int .i64] xs, .val (.int .i64 l)], [], k => br (decide (xs.length ≤ 9223372036854775807) && inL l) (k ⟨.val (.int .i64 (szR l xs.length)), [], []⟩) False
  | _, _, _ => False
theorem h23s : G1Ok Tryd.prog 47 g23s := by
  intro args obs k h
  unfold g23s at h
  split at h
  · rename_i k xs l
    obtain ⟨hp, hl, h⟩ := brb2 h
    simp only [inL, decide_eq_true_eq] at hl hp
    refine ⟨_, ctr_fn ok0 hg_nil Tryd.func47 (by kernel_rfl) (by kernel_rfl) (by kernel_rfl) fun C => ?_, h⟩
    rw [e47]
    rw [wrap_id (n := l - xs.length) (by omega) (by omega)]
    refine br_dec (fun h => ?_) (fun h => ?_)
    · show _ = _
      rw [szR_neg (by omega)]
    · show _ = _
      rw [szR_pos (by omega)]
  · exact h.elim
def g109 : G1
  | [.agg us, .val (.int .i64 l)], [], k => match elemOf kc us with
    | some a => br (inC a && inL l) (k ⟨.val (.int .i64 (szR l (szC a))), [], []⟩) False
    | none => False
  | _, _, _ => False
noncomputable def E109 : Env := E0.of Tryd.f109
noncomputable def G109 : Gk := gk []
noncomputable def lp109 (n : Nat) : Code := (loopOf n (codeOf Tryd.f109)).getD .skip
noncomputable def ct109 (L : Lp) (R : Option Res → Prop) (n : Nat) : Kt := contOf E109 G109 L n (codeOf Tryd.f109) (endK E109 Tryd.f109.results.toList R)
noncomputable def rk109 (L : Lp) (R : Option Res → Prop) (n : Nat) (N : St → Prop) : Kt := rk (jof E109 (lp109 n)) N (ct109 L R n)
noncomputable def rkn109 (L : Lp) (R : Option Res → Prop) (n : Nat) (N : St → Prop) (m : Nat) (N2 : St → Prop) : Kt := rk (jof E109 (lp109 m)) N2 (contOf E109 G109 L m (lp109 n) (rk109 L R n N))
noncomputable def LOOPN109 (L : Lp) (R : Option Res → Prop) (n : Nat) (N : St → Prop) (m : Nat) (st : St) : Prop := L (lp109 m) st (contOf E109 G109 L m (lp109 n) (rk109 L R n N))
noncomputable def LOOP109 (L : Lp) (R : Option Res → Prop) (n : Nat) (st : St) : Prop := L (lp109 n) st (ct109 L R n)
theorem hg109 : HG Tryd.prog G109 := hg_nil
theorem okf109 : Ok Tryd.prog E109 := ok0.of Tryd.f109
theorem e109 (L : Lp) (R : Option Res → Prop) (a0 : ByteArray) (a1 : Int) (a2 : ByteArray) (a3 : Int) (a4 : Int) (a5 : Int) (a6 : Int) (a7 : Int) (a8 : Int) (a9 : Int) (a10 : Int) (a11 : Int) (a12 : Int) (a13 : Int) (a14 : Int) (a15 : Int) (a16 : Int) (a17 : Int) (a18 : Int) (a19 : Int) (a20 : Int) (a21 : Int) (a22 : Int) (a23 : Int) (a24 : Int) (a25 : Int) (a26 : Int) (a27 : Int) (a28 : Int) (a29 : Int) (a30 : Bool) (l : Int) : (bodyP E0 G109 L Tryd.f109 [.agg [.val (.string a0), .val (.int .i64 a1), .val (.string a2), .val (.int .i64 a3), .val (.int .i64 a4), .val (.int .i64 a5), .val (.int .i64 a6), .val (.int .i64 a7), .val (.int .i64 a8), .val (.int .i64 a9), .val (.int .i64 a10), .val (.int .i64 a11), .val (.int .i64 a12), .val (.int .i64 a13), .val (.int .i64 a14), .val (.int .i64 a15), .val (.int .i64 a16), .val (.int .i64 a17), .val (.int .i64 a18), .val (.int .i64 a19), .val (.int .i64 a20), .val (.int .i64 a21), .val (.int .i64 a22), .val (.int .i64 a23), .val (.int .i64 a24), .val (.int .i64 a25), .val (.int .i64 a26), .val (.int .i64 a27), .val (.int .i64 a28), .val (.int .i64 a29), .val (.bool a30)], .val (.int .i64 l)] [] R) = (
    br (decide (IntKind.i64.wrap (l - (↑a0.size : Int)) < 0)) (R (some { av := vI (-1), obs := [], outs := [] })) (br (decide (IntKind.i64.wrap (IntKind.i64.wrap (l - (↑a0.size : Int)) - (↑a2.size : Int)) < 0)) (R (some { av := vI (-1), obs := [], outs := [] })) (R (some { av := vI (IntKind.i64.wrap (IntKind.i64.wrap (l - (↑a0.size : Int)) - (↑a2.size : Int))), obs := [], outs := [] })))) := by kernel_rfl
theorem h109 : G1Ok Tryd.prog 109 g109 := by
  intro args obs k h
  unfold g109 at h
  split at h
  · rename_i k us l
    split at h
    rotate_left
    · exact h.elim
    rename_i a ha
    obtain rfl := elemOf_inv ha
    obtain ⟨a0, a1, a2, a3, a4, a5, a6, a7, a8, a9, a10, a11, a12, a13, a14, a15, a16, a17, a18, a19, a20, a21, a22, a23, a24, a25, a26, a27, a28, a29, a30, ⟨⟩⟩ := a
    obtain ⟨hp, hl, h⟩ := brb2 h
    unfold inC at hp
    simp only [inL, inS, Bool.and_eq_true, decide_eq_true_eq] at hl hp
    obtain ⟨h0, h2⟩ := hp
    refine ⟨_, ctr_fn ok0 hg109 Tryd.func109 (by kernel_rfl) (by kernel_rfl) (by kernel_rfl) fun C => ?_, h⟩
    show bodyP E0 G109 _ Tryd.f109 [.agg [.val (.string a0), .val (.int .i64 a1), .val (.string a2), .val (.int .i64 a3), .val (.int .i64 a4), .val (.int .i64 a5), .val (.int .i64 a6), .val (.int .i64 a7), .val (.int .i64 a8), .val (.int .i64 a9), .val (.int .i64 a10), .val (.int .i64 a11), .val (.int .i64 a12), .val (.int .i64 a13), .val (.int .i64 a14), .val (.int .i64 a15), .val (.int .i64 a16), .val (.int .i64 a17), .val (.int .i64 a18), .val (.int .i64 a19), .val (.int .i64 a20), .val (.int .i64 a21), .val (.int .i64 a22), .val (.int .i64 a23), .val (.int .i64 a24), .val (.int .i64 a25), .val (.int .i64 a26), .val (.int .i64 a27), .val (.int .i64 a28), .val (.int .i64 a29), .val (.bool a30)], .val (.int .i64 l)] [] _
    rw [e109]
    have e : szC (a0, a1, a2, a3, a4, a5, a6, a7, a8, a9, a10, a11, a12, a13, a14, a15, a16, a17, a18, a19, a20, a21, a22, a23, a24, a25, a26, a27, a28, a29, a30, ()) = a0.size + a2.size := rfl
    rw [e, wrap_id (n := l - a0.size) (by omega) (by omega)]
    refine br_dec (fun h => ?_) (fun h => ?_)
    · show _ = _
      rw [szR_neg (by omega)]
    rw [wrap_id (n := l - a0.size - a2.size) (by omega) (by omega)]
    refine br_dec (fun h => ?_) (fun h => ?_)
    · show _ = _
      rw [szR_neg (by omega)]
    · show _ = _
      rw [szR_pos (by omega)]
      exact resI (by omega)
  · exact h.elim
def szCs (xs : List (Elem kc)) : Nat := xs.length + (xs.map szC).sum
def inCs (xs : List (Elem kc)) : Bool := decide (xs.length ≤ 9223372036854775807) && xs.all inC
def g46 : G1
  | [.rsl cxs xs0, .val (.int .i64 l)], [], k => match castE kc cxs xs0 with
    | some xs => br (inCs xs && inL l) (k ⟨.val (.int .i64 (szR l (szCs xs))), [], []⟩) False
    | _ => False
  | _, _, _ => False
noncomputable def E46 : Env := E0.of Tryd.f46
noncomputable def G46 : Gk := gk [(109, g109)]
noncomputable def lp46 (n : Nat) : Code := (loopOf n (codeOf Tryd.f46)).getD .skip
noncomputable def ct46 (L : Lp) (R : Option Res → Prop) (n : Nat) : Kt := contOf E46 G46 L n (codeOf Tryd.f46) (endK E46 Tryd.f46.results.toList R)
noncomputable def rk46 (L : Lp) (R : Option Res → Prop) (n : Nat) (N : St → Prop) : Kt := rk (jof E46 (lp46 n)) N (ct46 L R n)
noncomputable def rkn46 (L : Lp) (R : Option Res → Prop) (n : Nat) (N : St → Prop) (m : Nat) (N2 : St → Prop) : Kt := rk (jof E46 (lp46 m)) N2 (contOf E46 G46 L m (lp46 n) (rk46 L R n N))
noncomputable def LOOPN46 (L : Lp) (R : Option Res → Prop) (n : Nat) (N : St → Prop) (m : Nat) (st : St) : Prop := L (lp46 m) st (contOf E46 G46 L m (lp46 n) (rk46 L R n N))
noncomputable def LOOP46 (L : Lp) (R : Option Res → Prop) (n : Nat) (st : St) : Prop := L (lp46 n) st (ct46 L R n)
theorem hg46 : HG Tryd.prog G46 := (hg_cons h109 hg_nil)
theorem okf46 : Ok Tryd.prog E46 := ok0.of Tryd.f46
theorem e46 (L : Lp) (R : Option Res → Prop) (xs : List (Elem kc)) (l : Int) : (bodyP E0 G46 L Tryd.f46 [.rsl kc xs, .val (.int .i64 l)] [] R) = (
    br (decide (IntKind.i64.wrap (l - (↑xs.length : Int)) < 0)) (R (some { av := vI (-1), obs := [], outs := [] })) (LOOP46 L R 5 { tm := [AV.rsl kc xs, vI (IntKind.i64.wrap (l - (↑xs.length : Int))), vU, vU, vI 0, vI 0, vJ, vJ, vJ, vJ, vJ, vJ, vJ, vJ, vJ, vJ, vJ, vJ, vJ, vJ, vJ, vJ, vJ, vJ, vJ, vJ, vU], ob := [], nx := 1000000, ps := [] })) := by kernel_rfl
def st46 (xs : List (Elem kc)) (l m i : Int) : St :=  ⟨[AV.rsl kc xs, .val (.int .i64 m), vU, vU, vI 0, .val (.int .i64 i), vJ, vJ, vJ, vJ, vJ, vJ, vJ, vJ, vJ, vJ, vJ, vJ, vJ, vJ, vJ, vJ, vJ, vJ, vJ, vJ, vU], [], 1000000, []⟩
theorem b46 (L : Lp) (R : Option Res → Prop) (N : St → Prop) (xs : List (Elem kc)) (l m i : Int) : (evP E46 G46 L (lp46 5) (st46 xs l m i) (rk46 L R 5 N)) = (
    br (decide (i < (↑xs.length : Int))) (br (decide (0 ≤ i ∧ i < (↑xs.length : Int))) (br (inC (xs.getD i.toNat (edflt kc)) && inL m) (br (decide (szR m (szC (xs.getD i.toNat (edflt kc))) < 0)) (R (some { av := vI (-1), obs := [], outs := [] })) (N { tm := [AV.rsl kc xs, vI (szR m (szC (xs.getD i.toNat (edflt kc)))), vU, vU, vI 0, vI (IntKind.i64.wrap (i + 1)), vJ, vJ, vJ, vJ, vJ, vJ, vJ, vJ, vJ, vJ, vJ, vJ, vJ, vJ, vJ, vJ, vJ, vJ, vJ, vJ, vU], ob := [], nx := 1000000, ps := [] })) False) False) (R (some { av := vI m, obs := [], outs := [] }))) := by kernel_rfl
theorem h46 : G1Ok Tryd.prog 46 g46 := by
  intro args obs k h
  unfold g46 at h
  split at h
  · rename_i k cxs xs0 l
    split at h
    rotate_left
    · exact h.elim
    rename_i xs hxs
    cases castE_inv hxs
    obtain ⟨hp, h⟩ := br_and h
    rw [Bool.and_eq_true] at hp
    obtain ⟨hB, hl⟩ := hp
    unfold inCs at hB
    rw [Bool.and_eq_true] at hB
    obtain ⟨hlen, hB⟩ := hB
    simp only [inL, decide_eq_true_eq] at hl hlen
    refine ⟨_, ctr_fn ok0 hg46 Tryd.func46 (by kernel_rfl) (by kernel_rfl) (by kernel_rfl) fun C => ?_, h⟩
    rw [e46]
    have e : szCs xs = xs.length + (xs.map szC).sum := rfl
    have hw0 := wrap_id (n := l - xs.length) (by omega) (by omega)
    refine br_dec (fun h => ?_) (fun h => ?_) <;> rw [hw0] at h
    · show _ = _
      rw [e, szR_neg (by omega)]
    · exact loopSz okf46 hg46 (fun i m => st46 xs l m i) xs (edflt kc) szC inC l (by omega) hl.2 hB (fun N i m hi h0 h1 hw hpr neg pos done => by
        show evP E46 G46 _ (lp46 5) (st46 xs l m i) (rk46 _ _ 5 _)
        rw [b46, hw, Int.toNat_natCast]
        refine br_dec (fun h => br_yes ⟨by omega, h⟩ (br_t ?_ (br_dec (fun h2 => ?_) (fun h2 => ?_)))) (fun h => ?_)
        · rw [Bool.and_eq_true]
          exact ⟨hpr (by omega), by simp only [inL, decide_eq_true_eq]; omega⟩
        · show _ = _
          rw [e, neg (by omega) (szR_lt0 h2)]
        · rw [szR_pos (szR_ge0 h2)]
          exact pos (by omega) (szR_ge0 h2)
        · show _ = _
          rw [e, done (by omega)]) _ hw0 (by omega)
  · exact h.elim
def g152 : G1
  | [.agg us], [], k => match elemOf [.int .i64, .int .i64, .int .i64, .int .i64, .int .i64, .int .i64, .int .i64, .int .i64, .int .i64, .int .i64, .int .i64, .int .i64, .int .i64, .int .i64, .int .i64, .int .i64, .int .i64, .int .i64, .int .i64, .int .i64, .int .i64, .int .i64, .int .i64, .int .i64] us with
    | some a => k ⟨.agg ((vals [.int .i64, .int .i64, .int .i64, .int .i64, .int .i64, .int .i64, .int .i64, .int .i64, .int .i64, .int .i64, .int .i64, .int .i64, .int .i64, .int .i64, .int .i64, .int .i64, .int .i64, .int .i64, .int .i64, .int .i64, .int .i64, .int .i64, .int .i64, .int .i64] a).map .val), [], []⟩
    | none => False
  | _, _, _ => False
noncomputable def E152 : Env := E0.of Tryd.f152
noncomputable def G152 : Gk := gk [(117, g117)]
noncomputable def lp152 (n : Nat) : Code := (loopOf n (codeOf Tryd.f152)).getD .skip
noncomputable def ct152 (L : Lp) (R : Option Res → Prop) (n : Nat) : Kt := contOf E152 G152 L n (codeOf Tryd.f152) (endK E152 Tryd.f152.results.toList R)
noncomputable def rk152 (L : Lp) (R : Option Res → Prop) (n : Nat) (N : St → Prop) : Kt := rk (jof E152 (lp152 n)) N (ct152 L R n)
noncomputable def rkn152 (L : Lp) (R : Option Res → Prop) (n : Nat) (N : St → Prop) (m : Nat) (N2 : St → Prop) : Kt := rk (jof E152 (lp152 m)) N2 (contOf E152 G152 L m (lp152 n) (rk152 L R n N))
noncomputable def LOOPN152 (L : Lp) (R : Option Res → Prop) (n : Nat) (N : St → Prop) (m : Nat) (st : St) : Prop := L (lp152 m) st (contOf E152 G152 L m (lp152 n) (rk152 L R n N))
noncomputable def LOOP152 (L : Lp) (R : Option Res → Prop) (n : Nat) (st : St) : Prop := L (lp152 n) st (ct152 L R n)
theorem hg152 : HG Tryd.prog G152 := (hg_cons h117 hg_nil)
theorem okf152 : Ok Tryd.prog E152 := ok0.of Tryd.f152
theorem e152 (L : Lp) (R : Option Res → Prop) (a0 : Int) (a1 : Int) (a2 : Int) (a3 : Int) (a4 : Int) (a5 : Int) (a6 : Int) (a7 : Int) (a8 : Int) (a9 : Int) (a10 : Int) (a11 : Int) (a12 : Int) (a13 : Int) (a14 : Int) (a15 : Int) (a16 : Int) (a17 : Int) (a18 : Int) (a19 : Int) (a20 : Int) (a21 : Int) (a22 : Int) (a23 : Int) : (bodyP E0 G152 L Tryd.f152 [.agg [.val (.int .i64 a0), .val (.int .i64 a1), .val (.int .i64 a2), .val (.int .i64 a3), .val (.int .i64 a4), .val (.int .i64 a5), .val (.int .i64 a6), .val (.int .i64 a7), .val (.int .i64 a8), .val (.int .i64 a9), .val (.int .i64 a10), .val (.int .i64 a11), .val (.int .i64 a12), .val (.int .i64 a13), .val (.int .i64 a14), .val (.int .i64 a15), .val (.int .i64 a16), .val (.int .i64 a17), .val (.int .i64 a18), .val (.int .i64 a19), .val (.int .i64 a20), .val (.int .i64 a21), .val (.int .i64 a22), .val (.int .i64 a23)]] [] R) = (
    LOOP152 L R 3 { tm := [AV.agg [vI a0, vI a1, vI a2, vI a3, vI a4, vI a5, vI a6, vI a7, vI a8, vI a9, vI a10, vI a11, vI a12, vI a13, vI a14, vI a15, vI a16, vI a17, vI a18, vI a19, vI a20, vI a21, vI a22, vI a23], AV.ptr 0 0, AV.ptr 1 0, AV.ptr 2 0, vI 0, vJ, vJ, vJ, vJ, vJ, vJ, vJ, vJ, vJ, vJ, vU], ob := [(0, AO.box [vI a0, vI a1, vI a2, vI a3, vI a4, vI a5, vI a6, vI a7, vI a8, vI a9, vI a10, vI a11, vI a12, vI a13, vI a14, vI a15, vI a16, vI a17, vI a18, vI a19, vI a20, vI a21, vI a22, vI a23]), (1, AO.box [vI 0, vI 0, vI 0, vI 0, vI 0, vI 0, vI 0, vI 0, vI 0, vI 0, vI 0, vI 0, vI 0, vI 0, vI 0, vI 0, vI 0, vI 0, vI 0, vI 0, vI 0, vI 0, vI 0, vI 0]), (2, AO.box [vI 0, vI 0, vI 0, vI 0, vI 0, vI 0, vI 0, vI 0, vI 0, vI 0, vI 0, vI 0, vI 0, vI 0, vI 0, vI 0, vI 0, vI 0, vI 0, vI 0, vI 0, vI 0, vI 0, vI 0])], nx := 1000000, ps := [] }) := by kernel_rfl
def st152 (a0 : Int) (a1 : Int) (a2 : Int) (a3 : Int) (a4 : Int) (a5 : Int) (a6 : Int) (a7 : Int) (a8 : Int) (a9 : Int) (a10 : Int) (a11 : Int) (a12 : Int) (a13 : Int) (a14 : Int) (a15 : Int) (a16 : Int) (a17 : Int) (a18 : Int) (a19 : Int) (a20 : Int) (a21 : Int) (a22 : Int) (a23 : Int) (i : Int) (b0 : Int) (b1 : Int) (b2 : Int) (b3 : Int) (b4 : Int) (b5 : Int) (b6 : Int) (b7 : Int) (b8 : Int) (b9 : Int) (b10 : Int) (b11 : Int) (b12 : Int) (b13 : Int) (b14 : Int) (b15 : Int) (b16 : Int) (b17 : Int) (b18 : Int) (b19 : Int) (b20 : Int) (b21 : Int) (b22 : Int) (b23 : Int) : St :=  ⟨[AV.agg [vI a0, vI a1, vI a2, vI a3, vI a4, vI a5, vI a6, vI a7, vI a8, vI a9, vI a10, vI a11, vI a12, vI a13, vI a14, vI a15, vI a16, vI a17, vI a18, vI a19, vI a20, vI a21, vI a22, vI a23], AV.ptr 0 0, AV.ptr 1 0, AV.ptr 2 0, .val (.int .i64 i), vJ, vJ, vJ, vJ, vJ, vJ, vJ, vJ, vJ, vJ, vU], [(0, AO.box [vI a0, vI a1, vI a2, vI a3, vI a4, vI a5, vI a6, vI a7, vI a8, vI a9, vI a10, vI a11, vI a12, vI a13, vI a14, vI a15, vI a16, vI a17, vI a18, vI a19, vI a20, vI a21, vI a22, vI a23]), (1, AO.box [vI 0, vI 0, vI 0, vI 0, vI 0, vI 0, vI 0, vI 0, vI 0, vI 0, vI 0, vI 0, vI 0, vI 0, vI 0, vI 0, vI 0, vI 0, vI 0, vI 0, vI 0, vI 0, vI 0, vI 0]), (2, .box [.val (.int .i64 b0), .val (.int .i64 b1), .val (.int .i64 b2), .val (.int .i64 b3), .val (.int .i64 b4), .val (.int .i64 b5), .val (.int .i64 b6), .val (.int .i64 b7), .val (.int .i64 b8), .val (.int .i64 b9), .val (.int .i64 b10), .val (.int .i64 b11), .val (.int .i64 b12), .val (.int .i64 b13), .val (.int .i64 b14), .val (.int .i64 b15), .val (.int .i64 b16), .val (.int .i64 b17), .val (.int .i64 b18), .val (.int .i64 b19), .val (.int .i64 b20), .val (.int .i64 b21), .val (.int .i64 b22), .val (.int .i64 b23)])], 1000000, []⟩
theorem b152_0 (L : Lp) (R : Option Res → Prop) (N : St → Prop) (a0 : Int) (a1 : Int) (a2 : Int) (a3 : Int) (a4 : Int) (a5 : Int) (a6 : Int) (a7 : Int) (a8 : Int) (a9 : Int) (a10 : Int) (a11 : Int) (a12 : Int) (a13 : Int) (a14 : Int) (a15 : Int) (a16 : Int) (a17 : Int) (a18 : Int) (a19 : Int) (a20 : Int) (a21 : Int) (a22 : Int) (a23 : Int) : (evP E152 G152 L (lp152 3) (st152 a0 a1 a2 a3 a4 a5 a6 a7 a8 a9 a10 a11 a12 a13 a14 a15 a16 a17 a18 a19 a20 a21 a22 a23 0 0 0 0 0 0 0 0 0 0 0 0 0 0 0 0 0 0 0 0 0 0 0 0 0) (rk152 L R 3 N)) = (
    N { tm := [AV.agg [vI a0, vI a1, vI a2, vI a3, vI a4, vI a5, vI a6, vI a7, vI a8, vI a9, vI a10, vI a11, vI a12, vI a13, vI a14, vI a15, vI a16, vI a17, vI a18, vI a19, vI a20, vI a21, vI a22, vI a23], AV.ptr 0 0, AV.ptr 1 0, AV.ptr 2 0, vI 1, vJ, vJ, vJ, vJ, vJ, vJ, vJ, vJ, vJ, vJ, vU], ob := [(0, AO.box [vI a0, vI a1, vI a2, vI a3, vI a4, vI a5, vI a6, vI a7, vI a8, vI a9, vI a10, vI a11, vI a12, vI a13, vI a14, vI a15, vI a16, vI a17, vI a18, vI a19, vI a20, vI a21, vI a22, vI a23]), (1, AO.box [vI 0, vI 0, vI 0, vI 0, vI 0, vI 0, vI 0, vI 0, vI 0, vI 0, vI 0, vI 0, vI 0, vI 0, vI 0, vI 0, vI 0, vI 0, vI 0, vI 0, vI 0, vI 0, vI 0, vI 0]), (2, AO.box [vI a0, vI a1, vI a2, vI 0, vI 0, vI 0, vI 0, vI 0, vI 0, vI 0, vI 0, vI 0, vI 0, vI 0, vI 0, vI 0, vI 0, vI 0, vI 0, vI 0, vI 0, vI 0, vI 0, vI 0])], nx := 1000000, ps := [] }) := by kernel_rfl
theorem b152_1 (L : Lp) (R : Option Res → Prop) (N : St → Prop) (a0 : Int) (a1 : Int) (a2 : Int) (a3 : Int) (a4 : Int) (a5 : Int) (a6 : Int) (a7 : Int) (a8 : Int) (a9 : Int) (a10 : Int) (a11 : Int) (a12 : Int) (a13 : Int) (a14 : Int) (a15 : Int) (a16 : Int) (a17 : Int) (a18 : Int) (a19 : Int) (a20 : Int) (a21 : Int) (a22 : Int) (a23 : Int) : (evP E152 G152 L (lp152 3) (st152 a0 a1 a2 a3 a4 a5 a6 a7 a8 a9 a10 a11 a12 a13 a14 a15 a16 a17 a18 a19 a20 a21 a22 a23 1 a0 a1 a2 0 0 0 0 0 0 0 0 0 0 0 0 0 0 0 0 0 0 0 0 0) (rk152 L R 3 N)) = (
    N { tm := [AV.agg [vI a0, vI a1, vI a2, vI a3, vI a4, vI a5, vI a6, vI a7, vI a8, vI a9, vI a10, vI a11, vI a12, vI a13, vI a14, vI a15, vI a16, vI a17, vI a18, vI a19, vI a20, vI a21, vI a22, vI a23], AV.ptr 0 0, AV.ptr 1 0, AV.ptr 2 0, vI 2, vJ, vJ, vJ, vJ, vJ, vJ, vJ, vJ, vJ, vJ, vU], ob := [(0, AO.box [vI a0, vI a1, vI a2, vI a3, vI a4, vI a5, vI a6, vI a7, vI a8, vI a9, vI a10, vI a11, vI a12, vI a13, vI a14, vI a15, vI a16, vI a17, vI a18, vI a19, vI a20, vI a21, vI a22, vI a23]), (1, AO.box [vI 0, vI 0, vI 0, vI 0, vI 0, vI 0, vI 0, vI 0, vI 0, vI 0, vI 0, vI 0, vI 0, vI 0, vI 0, vI 0, vI 0, vI 0, vI 0, vI 0, vI 0, vI 0, vI 0, vI 0]), (2, AO.box [vI a0, vI a1, vI a2, vI a3, vI a4, vI a5, vI 0, vI 0, vI 0, vI 0, vI 0, vI 0, vI 0, vI 0, vI 0, vI 0, vI 0, vI 0, vI 0, vI 0, vI 0, vI 0, vI 0, vI 0])], nx := 1000000, ps := [] }) := by kernel_rfl
theorem b152_2 (L : Lp) (R : Option Res → Prop) (N : St → Prop) (a0 : Int) (a1 : Int) (a2 : Int) (a3 : Int) (a4 : Int) (a5 : Int) (a6 : Int) (a7 : Int) (a8 : Int) (a9 : Int) (a10 : Int) (a11 : Int) (a12 : Int) (a13 : Int) (a14 : Int) (a15 : Int) (a16 : Int) (a17 : Int) (a18 : Int) (a19 : Int) (a20 : Int) (a21 : Int) (a22 : Int) (a23 : Int) : (evP E152 G152 L (lp152 3) (st152 a0 a1 a2 a3 a4 a5 a6 a7 a8 a9 a10 a11 a12 a13 a14 a15 a16 a17 a18 a19 a20 a21 a22 a23 2 a0 a1 a2 a3 a4 a5 0 0 0 0 0 0 0 0 0 0 0 0 0 0 0 0 0 0) (rk152 L R 3 N)) = (
    N { tm := [AV.agg [vI a0, vI a1, vI a2, vI a3, vI a4, vI a5, vI a6, vI a7, vI a8, vI a9, vI a10, vI a11, vI a12, vI a13, vI a14, vI a15, vI a16, vI a17, vI a18, vI a19, vI a20, vI a21, vI a22, vI a23], AV.ptr 0 0, AV.ptr 1 0, AV.ptr 2 0, vI 3, vJ, vJ, vJ, vJ, vJ, vJ, vJ, vJ, vJ, vJ, vU], ob := [(0, AO.box [vI a0, vI a1, vI a2, vI a3, vI a4, vI a5, vI a6, vI a7, vI a8, vI a9, vI a10, vI a11, vI a12, vI a13, vI a14, vI a15, vI a16, vI a17, vI a18, vI a19, vI a20, vI a21, vI a22, vI a23]), (1, AO.box [vI 0, vI 0, vI 0, vI 0, vI 0, vI 0, vI 0, vI 0, vI 0, vI 0, vI 0, vI 0, vI 0, vI 0, vI 0, vI 0, vI 0, vI 0, vI 0, vI 0, vI 0, vI 0, vI 0, vI 0]), (2, AO.box [vI a0, vI a1, vI a2, vI a3, vI a4, vI a5, vI a6, vI a7, vI a8, vI 0, vI 0, vI 0, vI 0, vI 0, vI 0, vI 0, vI 0, vI 0, vI 0, vI 0, vI 0, vI 0, vI 0, vI 0])], nx := 1000000, ps := [] }) := by kernel_rfl
theorem b152_3 (L : Lp) (R : Option Res → Prop) (N : St → Prop) (a0 : Int) (a1 : Int) (a2 : Int) (a3 : Int) (a4 : Int) (a5 : Int) (a6 : Int) (a7 : Int) (a8 : Int) (a9 : Int) (a10 : Int) (a11 : Int) (a12 : Int) (a13 : Int) (a14 : Int) (a15 : Int) (a16 : Int) (a17 : Int) (a18 : Int) (a19 : Int) (a20 : Int) (a21 : Int) (a22 : Int) (a23 : Int) : (evP E152 G152 L (lp152 3) (st152 a0 a1 a2 a3 a4 a5 a6 a7 a8 a9 a10 a11 a12 a13 a14 a15 a16 a17 a18 a19 a20 a21 a22 a23 3 a0 a1 a2 a3 a4 a5 a6 a7 a8 0 0 0 0 0 0 0 0 0 0 0 0 0 0 0) (rk152 L R 3 N)) = (
    N { tm := [AV.agg [vI a0, vI a1, vI a2, vI a3, vI a4, vI a5, vI a6, vI a7, vI a8, vI a9, vI a10, vI a11, vI a12, vI a13, vI a14, vI a15, vI a16, vI a17, vI a18, vI a19, vI a20, vI a21, vI a22, vI a23], AV.ptr 0 0, AV.ptr 1 0, AV.ptr 2 0, vI 4, vJ, vJ, vJ, vJ, vJ, vJ, vJ, vJ, vJ, vJ, vU], ob := [(0, AO.box [vI a0, vI a1, vI a2, vI a3, vI a4, vI a5, vI a6, vI a7, vI a8, vI a9, vI a10, vI a11, vI a12, vI a13, vI a14, vI a15, vI a16, vI a17, vI a18, vI a19, vI a20, vI a21, vI a22, vI a23]), (1, AO.box [vI 0, vI 0, vI 0, vI 0, vI 0, vI 0, vI 0, vI 0, vI 0, vI 0, vI 0, vI 0, vI 0, vI 0, vI 0, vI 0, vI 0, vI 0, vI 0, vI 0, vI 0, vI 0, vI 0, vI 0]), (2, AO.box [vI a0, vI a1, vI a2, vI a3, vI a4, vI a5, vI a6, vI a7, vI a8, vI a9, vI a10, vI a11, vI 0, vI 0, vI 0, vI 0, vI 0, vI 0, vI 0, vI 0, vI 0, vI 0, vI 0, vI 0])], nx := 1000000, ps := [] }) := by kernel_rfl
theorem b152_4 (L : Lp) (R : Option Res → Prop) (N : St → Prop) (a0 : Int) (a1 : Int) (a2 : Int) (a3 : Int) (a4 : Int) (a5 : Int) (a6 : Int) (a7 : Int) (a8 : Int) (a9 : Int) (a10 : Int) (a11 : Int) (a12 : Int) (a13 : Int) (a14 : Int) (a15 : Int) (a16 : Int) (a17 : Int) (a18 : Int) (a19 : Int) (a20 : Int) (a21 : Int) (a22 : Int) (a23 : Int) : (evP E152 G152 L (lp152 3) (st152 a0 a1 a2 a3 a4 a5 a6 a7 a8 a9 a10 a11 a12 a13 a14 a15 a16 a17 a18 a19 a20 a21 a22 a23 4 a0 a1 a2 a3 a4 a5 a6 a7 a8 a9 a10 a11 0 0 0 0 0 0 0 0 0 0 0 0) (rk152 L R 3 N)) = (
    N { tm := [AV.agg [vI a0, vI a1, vI a2, vI a3, vI a4, vI a5, vI a6, vI a7, vI a8, vI a9, vI a10, vI a11, vI a12, vI a13, vI a14, vI a15, vI a16, vI a17, vI a18, vI a19, vI a20, vI a21, vI a22, vI a23], AV.ptr 0 0, AV.ptr 1 0, AV.ptr 2 0, vI 5, vJ, vJ, vJ, vJ, vJ, vJ, vJ, vJ, vJ, vJ, vU], ob := [(0, AO.box [vI a0, vI a1, vI a2, vI a3, vI a4, vI a5, vI a6, vI a7, vI a8, vI a9, vI a10, vI a11, vI a12, vI a13, vI a14, vI a15, vI a16, vI a17, vI a18, vI a19, vI a20, vI a21, vI a22, vI a23]), (1, AO.box [vI 0, vI 0, vI 0, vI 0, vI 0, vI 0, vI 0, vI 0, vI 0, vI 0, vI 0, vI 0, vI 0, vI 0, vI 0, vI 0, vI 0, vI 0, vI 0, vI 0, vI 0, vI 0, vI 0, vI 0]), (2, AO.box [vI a0, vI a1, vI a2, vI a3, vI a4, vI a5, vI a6, vI a7, vI a8, vI a9, vI a10, vI a11, vI a12, vI a13, vI a14, vI 0, vI 0, vI 0, vI 0, vI 0, vI 0, vI 0, vI 0, vI 0])], nx := 1000000, ps := [] }) := by kernel_rfl
theorem b152_5 (L : Lp) (R : Option Res → Prop) (N : St → Prop) (a0 : Int) (a1 : Int) (a2 : Int) (a3 : Int) (a4 : Int) (a5 : Int) (a6 : Int) (a7 : Int) (a8 : Int) (a9 : Int) (a10 : Int) (a11 : Int) (a12 : Int) (a13 : Int) (a14 : Int) (a15 : Int) (a16 : Int) (a17 : Int) (a18 : Int) (a19 : Int) (a20 : Int) (a21 : Int) (a22 : Int) (a23 : Int) : (evP E152 G152 L (lp152 3) (st152 a0 a1 a2 a3 a4 a5 a6 a7 a8 a9 a10 a11 a12 a13 a14 a15 a16 a17 a18 a19 a20 a21 a22 a23 5 a0 a1 a2 a3 a4 a5 a6 a7 a8 a9 a10 a11 a12 a13 a14 0 0 0 0 0 0 0 0 0) (rk152 L R 3 N)) = (
    N { tm := [AV.agg [vI a0, vI a1, vI a2, vI a3, vI a4, vI a5, vI a6, vI a7, vI a8, vI a9, vI a10, vI a11, vI a12, vI a13, vI a14, vI a15, vI a16, vI a17, vI a18, vI a19, vI a20, vI a21, vI a22, vI a23], AV.ptr 0 0, AV.ptr 1 0, AV.ptr 2 0, vI 6, vJ, vJ, vJ, vJ, vJ, vJ, vJ, vJ, vJ, vJ, vU], ob := [(0, AO.box [vI a0, vI a1, vI a2, vI a3, vI a4, vI a5, vI a6, vI a7, vI a8, vI a9, vI a10, vI a11, vI a12, vI a13, vI a14, vI a15, vI a16, vI a17, vI a18, vI a19, vI a20, vI a21, vI a22, vI a23]), (1, AO.box [vI 0, vI 0, vI 0, vI 0, vI 0, vI 0, vI 0, vI 0, vI 0, vI 0, vI 0, vI 0, vI 0, vI 0, vI 0, vI 0, vI 0, vI 0, vI 0, vI 0, vI 0, vI 0, vI 0, vI 0]), (2, AO.box [vI a0, vI a1, vI a2, vI a3, vI a4, vI a5, vI a6, vI a7, vI a8, vI a9, vI a10, vI a11, vI a12, vI a13, vI a14, vI a15, vI a16, vI a17, vI 0, vI 0, vI 0, vI 0, vI 0, vI 0])], nx := 1000000, ps := [] }) := by kernel_rfl
theorem b152_6 (L : Lp) (R : Option Res → Prop) (N : St → Prop) (a0 : Int) (a1 : Int) (a2 : Int) (a3 : Int) (a4 : Int) (a5 : Int) (a6 : Int) (a7 : Int) (a8 : Int) (a9 : Int) (a10 : Int) (a11 : Int) (a12 : Int) (a13 : Int) (a14 : Int) (a15 : Int) (a16 : Int) (a17 : Int) (a18 : Int) (a19 : Int) (a20 : Int) (a21 : Int) (a22 : Int) (a23 : Int) : (evP E152 G152 L (lp152 3) (st152 a0 a1 a2 a3 a4 a5 a6 a7 a8 a9 a10 a11 a12 a13 a14 a15 a16 a17 a18 a19 a20 a21 a22 a23 6 a0 a1 a2 a3 a4 a5 a6 a7 a8 a9 a10 a11 a12 a13 a14 a15 a16 a17 0 0 0 0 0 0) (rk152 L R 3 N)) = (
    N { tm := [AV.agg [vI a0, vI a1, vI a2, vI a3, vI a4, vI a5, vI a6, vI a7, vI a8, vI a9, vI a10, vI a11, vI a12, vI a13, vI a14, vI a15, vI a16, vI a17, vI a18, vI a19, vI a20, vI a21, vI a22, vI a23], AV.ptr 0 0, AV.ptr 1 0, AV.ptr 2 0, vI 7, vJ, vJ, vJ, vJ, vJ, vJ, vJ, vJ, vJ, vJ, vU], ob := [(0, AO.box [vI a0, vI a1, vI a2, vI a3, vI a4, vI a5, vI a6, vI a7, vI a8, vI a9, vI a10, vI a11, vI a12, vI a13, vI a14, vI a15, vI a16, vI a17, vI a18, vI a19, vI a20, vI a21, vI a22, vI a23]), (1, AO.box [vI 0, vI 0, vI 0, vI 0, vI 0, vI 0, vI 0, vI 0, vI 0, vI 0, vI 0, vI 0, vI 0, vI 0, vI 0, vI 0, vI 0, vI 0, vI 0, vI 0, vI 0, vI 0, vI 0, vI 0]), (2, AO.box [vI a0, vI a1, vI a2, vI a3, vI a4, vI a5, vI a6, vI a7, vI a8, vI a9, vI a10, vI a11, vI a12, vI a13, vI a14, vI a15, vI a16, vI a17, vI a18, vI a19, vI a20, vI 0, vI 0, vI 0])], nx := 1000000, ps := [] }) := by kernel_rfl
theorem b152_7 (L : Lp) (R : Option Res → Prop) (N : St → Prop) (a0 : Int) (a1 : Int) (a2 : Int) (a3 : Int) (a4 : Int) (a5 : Int) (a6 : Int) (a7 : Int) (a8 : Int) (a9 : Int) (a10 : Int) (a11 : Int) (a12 : Int) (a13 : Int) (a14 : Int) (a15 : Int) (a16 : Int) (a17 : Int) (a18 : Int) (a19 : Int) (a20 : Int) (a21 : Int) (a22 : Int) (a23 : Int) : (evP E152 G152 L (lp152 3) (st152 a0 a1 a2 a3 a4 a5 a6 a7 a8 a9 a10 a11 a12 a13 a14 a15 a16 a17 a18 a19 a20 a21 a22 a23 7 a0 a1 a2 a3 a4 a5 a6 a7 a8 a9 a10 a11 a12 a13 a14 a15 a16 a17 a18 a19 a20 0 0 0) (rk152 L R 3 N)) = (
    N { tm := [AV.agg [vI a0, vI a1, vI a2, vI a3, vI a4, vI a5, vI a6, vI a7, vI a8, vI a9, vI a10, vI a11, vI a12, vI a13, vI a14, vI a15, vI a16, vI a17, vI a18, vI a19, vI a20, vI a21, vI a22, vI a23], AV.ptr 0 0, AV.ptr 1 0, AV.ptr 2 0, vI 8, vJ, vJ, vJ, vJ, vJ, vJ, vJ, vJ, vJ, vJ, vU], ob := [(0, AO.box [vI a0, vI a1, vI a2, vI a3, vI a4, vI a5, vI a6, vI a7, vI a8, vI a9, vI a10, vI a11, vI a12, vI a13, vI a14, vI a15, vI a16, vI a17, vI a18, vI a19, vI a20, vI a21, vI a22, vI a23]), (1, AO.box [vI 0, vI 0, vI 0, vI 0, vI 0, vI 0, vI 0, vI 0, vI 0, vI 0, vI 0, vI 0, vI 0, vI 0, vI 0, vI 0, vI 0, vI 0, vI 0, vI 0, vI 0, vI 0, vI 0, vI 0]), (2, AO.box [vI a0, vI a1, vI a2, vI a3, vI a4, vI a5, vI a6, vI a7, vI a8, vI a9, vI a10, vI a11, vI a12, vI a13, vI a14, vI a15, vI a16, vI a17, vI a18, vI a19, vI a20, vI a21, vI a22, vI a23])], nx := 1000000, ps := [] }) := by kernel_rfl
theorem b152_8 (L : Lp) (R : Option Res → Prop) (N : St → Prop) (a0 : Int) (a1 : Int) (a2 : Int) (a3 : Int) (a4 : Int) (a5 : Int) (a6 : Int) (a7 : Int) (a8 : Int) (a9 : Int) (a10 : Int) (a11 : Int) (a12 : Int) (a13 : Int) (a14 : Int) (a15 : Int) (a16 : Int) (a17 : Int) (a18 : Int) (a19 : Int) (a20 : Int) (a21 : Int) (a22 : Int) (a23 : Int) : (evP E152 G152 L (lp152 3) (st152 a0 a1 a2 a3 a4 a5 a6 a7 a8 a9 a10 a11 a12 a13 a14 a15 a16 a17 a18 a19 a20 a21 a22 a23 8 a0 a1 a2 a3 a4 a5 a6 a7 a8 a9 a10 a11 a12 a13 a14 a15 a16 a17 a18 a19 a20 a21 a22 a23) (rk152 L R 3 N)) = (
    R (some { av := AV.agg [vI a0, vI a1, vI a2, vI a3, vI a4, vI a5, vI a6, vI a7, vI a8, vI a9, vI a10, vI a11, vI a12, vI a13, vI a14, vI a15, vI a16, vI a17, vI a18, vI a19, vI a20, vI a21, vI a22, vI a23], obs := [], outs := [] })) := by kernel_rfl
def sq152 (a0 : Int) (a1 : Int) (a2 : Int) (a3 : Int) (a4 : Int) (a5 : Int) (a6 : Int) (a7 : Int) (a8 : Int) (a9 : Int) (a10 : Int) (a11 : Int) (a12 : Int) (a13 : Int) (a14 : Int) (a15 : Int) (a16 : Int) (a17 : Int) (a18 : Int) (a19 : Int) (a20 : Int) (a21 : Int) (a22 : Int) (a23 : Int) : Nat → St
  | 0 => st152 a0 a1 a2 a3 a4 a5 a6 a7 a8 a9 a10 a11 a12 a13 a14 a15 a16 a17 a18 a19 a20 a21 a22 a23 0 0 0 0 0 0 0 0 0 0 0 0 0 0 0 0 0 0 0 0 0 0 0 0 0
  | 1 => st152 a0 a1 a2 a3 a4 a5 a6 a7 a8 a9 a10 a11 a12 a13 a14 a15 a16 a17 a18 a19 a20 a21 a22 a23 1 a0 a1 a2 0 0 0 0 0 0 0 0 0 0 0 0 0 0 0 0 0 0 0 0 0
  | 2 => st152 a0 a1 a2 a3 a4 a5 a6 a7 a8 a9 a10 a11 a12 a13 a14 a15 a16 a17 a18 a19 a20 a21 a22 a23 2 a0 a1 a2 a3 a4 a5 0 0 0 0 0 0 0 0 0 0 0 0 0 0 0 0 0 0
  | 3 => st152 a0 a1 a2 a3 a4 a5 a6 a7 a8 a9 a10 a11 a12 a13 a14 a15 a16 a17 a18 a19 a20 a21 a22 a23 3 a0 a1 a2 a3 a4 a5 a6 a7 a8 0 0 0 0 0 0 0 0 0 0 0 0 0 0 0
  | 4 => st152 a0 a1 a2 a3 a4 a5 a6 a7 a8 a9 a10 a11 a12 a13 a14 a15 a16 a17 a18 a19 a20 a21 a22 a23 4 a0 a1 a2 a3 a4 a5 a6 a7 a8 a9 a10 a11 0 0 0 0 0 0 0 0 0 0 0 0
  | 5 => st152 a0 a1 a2 a3 a4 a5 a6 a7 a8 a9 a10 a11 a12 a13 a14 a15 a16 a17 a18 a19 a20 a21 a22 a23 5 a0 a1 a2 a3 a4 a5 a6 a7 a8 a9 a10 a11 a12 a13 a14 0 0 0 0 0 0 0 0 0
  | 6 => st152 a0 a1 a2 a3 a4 a5 a6 a7 a8 a9 a10 a11 a12 a13 a14 a15 a16 a17 a18 a19 a20 a21 a22 a23 6 a0 a1 a2 a3 a4 a5 a6 a7 a8 a9 a10 a11 a12 a13 a14 a15 a16 a17 0 0 0 0 0 0
  | 7 => st152 a0 a1 a2 a3 a4 a5 a6 a7 a8 a9 a10 a11 a12 a13 a14 a15 a16 a17 a18 a19 a20 a21 a22 a23 7 a0 a1 a2 a3 a4 a5 a6 a7 a8 a9 a10 a11 a12 a13 a14 a15 a16 a17 a18 a19 a20 0 0 0
  | _ => st152 a0 a1 a2 a3 a4 a5 a6 a7 a8 a9 a10 a11 a12 a13 a14 a15 a16 a17 a18 a19 a20 a21 a22 a23 8 a0 a1 a2 a3 a4 a5 a6 a7 a8 a9 a10 a11 a12 a13 a14 a15 a16 a17 a18 a19 a20 a21 a22 a23
theorem h152 : G1Ok Tryd.prog 152 g152 := by
  intro args obs k h
  unfold g152 at h
  split at h
  · rename_i k us
    split at h
    rotate_left
    · exact h.elim
    rename_i a ha
    obtain rfl := elemOf_inv ha
    obtain ⟨a0, a1, a2, a3, a4, a5, a6, a7, a8, a9, a10, a11, a12, a13, a14, a15, a16, a17, a18, a19, a20, a21, a22, a23, ⟨⟩⟩ := a
    refine ⟨_, ctr_fn ok0 hg152 Tryd.func152 (by kernel_rfl) (by kernel_rfl) (by kernel_rfl) fun C => ?_, h⟩
    show bodyP E0 G152 _ Tryd.f152 [.agg [.val (.int .i64 a0), .val (.int .i64 a1), .val (.int .i64 a2), .val (.int .i64 a3), .val (.int .i64 a4), .val (.int .i64 a5), .val (.int .i64 a6), .val (.int .i64 a7), .val (.int .i64 a8), .val (.int .i64 a9), .val (.int .i64 a10), .val (.int .i64 a11), .val (.int .i64 a12), .val (.int .i64 a13), .val (.int .i64 a14), .val (.int .i64 a15), .val (.int .i64 a16), .val (.int .i64 a17), .val (.int .i64 a18), .val (.int .i64 a19), .val (.int .i64 a20), .val (.int .i64 a21), .val (.int .i64 a22), .val (.int .i64 a23)]] [] _
    rw [e152]
    refine loopSeq okf152 hg152 (sq152 a0 a1 a2 a3 a4 a5 a6 a7 a8 a9 a10 a11 a12 a13 a14 a15 a16 a17 a18 a19 a20 a21 a22 a23) 8 (fun N i hi next => ?_) (fun N => ?_)
    · have cs : i = 0 ∨ i = 1 ∨ i = 2 ∨ i = 3 ∨ i = 4 ∨ i = 5 ∨ i = 6 ∨ i = 7 := by omega
      rcases cs with rfl | rfl | rfl | rfl | rfl | rfl | rfl | rfl
      · show evP E152 G152 _ (lp152 3) (st152 a0 a1 a2 a3 a4 a5 a6 a7 a8 a9 a10 a11 a12 a13 a14 a15 a16 a17 a18 a19 a20 a21 a22 a23 0 0 0 0 0 0 0 0 0 0 0 0 0 0 0 0 0 0 0 0 0 0 0 0 0) (rk152 _ _ 3 _)
        rw [b152_0]
        exact next
      · show evP E152 G152 _ (lp152 3) (st152 a0 a1 a2 a3 a4 a5 a6 a7 a8 a9 a10 a11 a12 a13 a14 a15 a16 a17 a18 a19 a20 a21 a22 a23 1 a0 a1 a2 0 0 0 0 0 0 0 0 0 0 0 0 0 0 0 0 0 0 0 0 0) (rk152 _ _ 3 _)
        rw [b152_1]
        exact next
      · show evP E152 G152 _ (lp152 3) (st152 a0 a1 a2 a3 a4 a5 a6 a7 a8 a9 a10 a11 a12 a13 a14 a15 a16 a17 a18 a19 a20 a21 a22 a23 2 a0 a1 a2 a3 a4 a5 0 0 0 0 0 0 0 0 0 0 0 0 0 0 0 0 0 0) (rk152 _ _ 3 _)
        rw [b152_2]
        exact next
      · show evP E152 G152 _ (lp152 3) (st152 a0 a1 a2 a3 a4 a5 a6 a7 a8 a9 a10 a11 a12 a13 a14 a15 a16 a17 a18 a19 a20 a21 a22 a23 3 a0 a1 a2 a3 a4 a5 a6 a7 a8 0 0 0 0 0 0 0 0 0 0 0 0 0 0 0) (rk152 _ _ 3 _)
        rw [b152_3]
        exact next
      · show evP E152 G152 _ (lp152 3) (st152 a0 a1 a2 a3 a4 a5 a6 a7 a8 a9 a10 a11 a12 a13 a14 a15 a16 a17 a18 a19 a20 a21 a22 a23 4 a0 a1 a2 a3 a4 a5 a6 a7 a8 a9 a10 a11 0 0 0 0 0 0 0 0 0 0 0 0) (rk152 _ _ 3 _)
        rw [b152_4]
        exact next
      · show evP E152 G152 _ (lp152 3) (st152 a0 a1 a2 a3 a4 a5 a6 a7 a8 a9 a10 a11 a12 a13 a14 a15 a16 a17 a18 a19 a20 a21 a22 a23 5 a0 a1 a2 a3 a4 a5 a6 a7 a8 a9 a10 a11 a12 a13 a14 0 0 0 0 0 0 0 0 0) (rk152 _ _ 3 _)
        rw [b152_5]
        exact next
      · show evP E152 G152 _ (lp152 3) (st152 a0 a1 a2 a3 a4 a5 a6 a7 a8 a9 a10 a11 a12 a13 a14 a15 a16 a17 a18 a19 a20 a21 a22 a23 6 a0 a1 a2 a3 a4 a5 a6 a7 a8 a9 a10 a11 a12 a13 a14 a15 a16 a17 0 0 0 0 0 0) (rk152 _ _ 3 _)
        rw [b152_6]
        exact next
      · show evP E152 G152 _ (lp152 3) (st152 a0 a1 a2 a3 a4 a5 a6 a7 a8 a9 a10 a11 a12 a13 a14 a15 a16 a17 a18 a19 a20 a21 a22 a23 7 a0 a1 a2 a3 a4 a5 a6 a7 a8 a9 a10 a11 a12 a13 a14 a15 a16 a17 a18 a19 a20 0 0 0) (rk152 _ _ 3 _)
        rw [b152_7]
        exact next
    · show evP E152 G152 _ (lp152 3) (st152 a0 a1 a2 a3 a4 a5 a6 a7 a8 a9 a10 a11 a12 a13 a14 a15 a16 a17 a18 a19 a20 a21 a22 a23 8 a0 a1 a2 a3 a4 a5 a6 a7 a8 a9 a10 a11 a12 a13 a14 a15 a16 a17 a18 a19 a20 a21 a22 a23) (rk152 _ _ 3 _)
      rw [b152_8]
      rfl
  · exact h.elim
def g115 : G1
  | [.agg us], [], k => match elemOf kc us with
    | some a => k ⟨.agg ((vals kc a).map .val), [], []⟩
    | none => False
  | _, _, _ => False
noncomputable def E115 : Env := E0.of Tryd.f115
noncomputable def G115 : Gk := gk [(152, g152), (117, g117)]
noncomputable def lp115 (n : Nat) : Code := (loopOf n (codeOf Tryd.f115)).getD .skip
noncomputable def ct115 (L : Lp) (R : Option Res → Prop) (n : Nat) : Kt := contOf E115 G115 L n (codeOf Tryd.f115) (endK E115 Tryd.f115.results.toList R)
noncomputable def rk115 (L : Lp) (R : Option Res → Prop) (n : Nat) (N : St → Prop) : Kt := rk (jof E115 (lp115 n)) N (ct115 L R n)
noncomputable def rkn115 (L : Lp) (R : Option Res → Prop) (n : Nat) (N : St → Prop) (m : Nat) (N2 : St → Prop) : Kt := rk (jof E115 (lp115 m)) N2 (contOf E115 G115 L m (lp115 n) (rk115 L R n N))
noncomputable def LOOPN115 (L : Lp) (R : Option Res → Prop) (n : Nat) (N : St → Prop) (m : Nat) (st : St) : Prop := L (lp115 m) st (contOf E115 G115 L m (lp115 n) (rk115 L R n N))
noncomputable def LOOP115 (L : Lp) (R : Option Res → Prop) (n : Nat) (st : St) : Prop := L (lp115 n) st (ct115 L R n)
theorem hg115 : HG Tryd.prog G115 := (hg_cons h152 (hg_cons h117 hg_nil))
theorem okf115 : Ok Tryd.prog E115 := ok0.of Tryd.f115
theorem e115 (L : Lp) (R : Option Res → Prop) (a0 : ByteArray) (a1 : Int) (a2 : ByteArray) (a3 : Int) (a4 : Int) (a5 : Int) (a6 : Int) (a7 : Int) (a8 : Int) (a9 : Int) (a10 : Int) (a11 : Int) (a12 : Int) (a13 : Int) (a14 : Int) (a15 : Int) (a16 : Int) (a17 : Int) (a18 : Int) (a19 : Int) (a20 : Int) (a21 : Int) (a22 : Int) (a23 : Int) (a24 : Int) (a25 : Int) (a26 : Int) (a27 : Int) (a28 : Int) (a29 : Int) (a30 : Bool) : (bodyP E0 G115 L Tryd.f115 [.agg [.val (.string a0), .val (.int .i64 a1), .val (.string a2), .val (.int .i64 a3), .val (.int .i64 a4), .val (.int .i64 a5), .val (.int .i64 a6), .val (.int .i64 a7), .val (.int .i64 a8), .val (.int .i64 a9), .val (.int .i64 a10), .val (.int .i64 a11), .val (.int .i64 a12), .val (.int .i64 a13), .val (.int .i64 a14), .val (.int .i64 a15), .val (.int .i64 a16), .val (.int .i64 a17), .val (.int .i64 a18), .val (.int .i64 a19), .val (.int .i64 a20), .val (.int .i64 a21), .val (.int .i64 a22), .val (.int .i64 a23), .val (.int .i64 a24), .val (.int .i64 a25), .val (.int .i64 a26), .val (.int .i64 a27), .val (.int .i64 a28), .val (.int .i64 a29), .val (.bool a30)]] [] R) = (
    R (some { av := AV.agg [vS a0, vI a1, vS a2, vI (a3, a4, a5, a6, a7, a8, a9, a10, a11, a12, a13, a14, a15, a16, a17, a18, a19, a20, a21, a22, a23, a24, a25, a26, ()).fst, vI (a3, a4, a5, a6, a7, a8, a9, a10, a11, a12, a13, a14, a15, a16, a17, a18, a19, a20, a21, a22, a23, a24, a25, a26, ()).snd.fst, vI (a3, a4, a5, a6, a7, a8, a9, a10, a11, a12, a13, a14, a15, a16, a17, a18, a19, a20, a21, a22, a23, a24, a25, a26, ()).snd.snd.fst, vI (a3, a4, a5, a6, a7, a8, a9, a10, a11, a12, a13, a14, a15, a16, a17, a18, a19, a20, a21, a22, a23, a24, a25, a26, ()).snd.snd.snd.fst, vI (a3, a4, a5, a6, a7, a8, a9, a10, a11, a12, a13, a14, a15, a16, a17, a18, a19, a20, a21, a22, a23, a24, a25, a26, ()).snd.snd.snd.snd.fst, vI (a3, a4, a5, a6, a7, a8, a9, a10, a11, a12, a13, a14, a15, a16, a17, a18, a19, a20, a21, a22, a23, a24, a25, a26, ()).snd.snd.snd.snd.snd.fst, vI (a3, a4, a5, a6, a7, a8, a9, a10, a11, a12, a13, a14, a15, a16, a17, a18, a19, a20, a21, a22, a23, a24, a25, a26, ()).snd.snd.snd.snd.snd.snd.fst, vI (a3, a4, a5, a6, a7, a8, a9, a10, a11, a12, a13, a14, a15, a16, a17, a18, a19, a20, a21, a22, a23, a24, a25, a26, ()).snd.snd.snd.snd.snd.snd.snd.fst, vI (a3, a4, a5, a6, a7, a8, a9, a10, a11, a12, a13, a14, a15, a16, a17, a18, a19, a20, a21, a22, a23, a24, a25, a26, ()).snd.snd.snd.snd.snd.snd.snd.snd.fst, vI (a3, a4, a5, a6, a7, a8, a9, a10, a11, a12, a13, a14, a15, a16, a17, a18, a19, a20, a21, a22, a23, a24, a25, a26, ()).snd.snd.snd.snd.snd.snd.snd.snd.snd.fst, vI (a3, a4, a5, a6, a7, a8, a9, a10, a11, a12, a13, a14, a15, a16, a17, a18, a19, a20, a21, a22, a23, a24, a25, a26, ()).snd.snd.snd.snd.snd.snd.snd.snd.snd.snd.fst, vI (a3, a4, a5, a6, a7, a8, a9, a10, a11, a12, a13, a14, a15, a16, a17, a18, a19, a20, a21, a22, a23, a24, a25, a26, ()).snd.snd.snd.snd.snd.snd.snd.snd.snd.snd.snd.fst, vI (a3, a4, a5, a6, a7, a8, a9, a10, a11, a12, a13, a14, a15, a16, a17, a18, a19, a20, a21, a22, a23, a24, a25, a26, ()).snd.snd.snd.snd.snd.snd.snd.snd.snd.snd.snd.snd.fst, vI (a3, a4, a5, a6, a7, a8, a9, a10, a11, a12, a13, a14, a15, a16, a17, a18, a19, a20, a21, a22, a23, a24, a25, a26, ()).snd.snd.snd.snd.snd.snd.snd.snd.snd.snd.snd.snd.snd.fst, vI (a3, a4, a5, a6, a7, a8, a9, a10, a11, a12, a13, a14, a15, a16, a17, a18, a19, a20, a21, a22, a23, a24, a25, a26, ()).snd.snd.snd.snd.snd.snd.snd.snd.snd.snd.snd.snd.snd.snd.fst, vI (a3, a4, a5, a6, a7, a8, a9, a10, a11, a12, a13, a14, a15, a16, a17, a18, a19, a20, a21, a22, a23, a24, a25, a26, ()).snd.snd.snd.snd.snd.snd.snd.snd.snd.snd.snd.snd.snd.snd.snd.fst, vI (a3, a4, a5, a6, a7, a8, a9, a10, a11, a12, a13, a14, a15, a16, a17, a18, a19, a20, a21, a22, a23, a24, a25, a26, ()).snd.snd.snd.snd.snd.snd.snd.snd.snd.snd.snd.snd.snd.snd.snd.snd.fst, vI (a3, a4, a5, a6, a7, a8, a9, a10, a11, a12, a13, a14, a15, a16, a17, a18, a19, a20, a21, a22, a23, a24, a25, a26, ()).snd.snd.snd.snd.snd.snd.snd.snd.snd.snd.snd.snd.snd.snd.snd.snd.snd.fst, vI (a3, a4, a5, a6, a7, a8, a9, a10, a11, a12, a13, a14, a15, a16, a17, a18, a19, a20, a21, a22, a23, a24, a25, a26, ()).snd.snd.snd.snd.snd.snd.snd.snd.snd.snd.snd.snd.snd.snd.snd.snd.snd.snd.fst, vI (a3, a4, a5, a6, a7, a8, a9, a10, a11, a12, a13, a14, a15, a16, a17, a18, a19, a20, a21, a22, a23, a24, a25, a26, ()).snd.snd.snd.snd.snd.snd.snd.snd.snd.snd.snd.snd.snd.snd.snd.snd.snd.snd.snd.fst, vI (a3, a4, a5, a6, a7, a8, a9, a10, a11, a12, a13, a14, a15, a16, a17, a18, a19, a20, a21, a22, a23, a24, a25, a26, ()).snd.snd.snd.snd.snd.snd.snd.snd.snd.snd.snd.snd.snd.snd.snd.snd.snd.snd.snd.snd.fst, vI (a3, a4, a5, a6, a7, a8, a9, a10, a11, a12, a13, a14, a15, a16, a17, a18, a19, a20, a21, a22, a23, a24, a25, a26, ()).snd.snd.snd.snd.snd.snd.snd.snd.snd.snd.snd.snd.snd.snd.snd.snd.snd.snd.snd.snd.snd.fst, vI (a3, a4, a5, a6, a7, a8, a9, a10, a11, a12, a13, a14, a15, a16, a17, a18, a19, a20, a21, a22, a23, a24, a25, a26, ()).snd.snd.snd.snd.snd.snd.snd.snd.snd.snd.snd.snd.snd.snd.snd.snd.snd.snd.snd.snd.snd.snd.fst, vI (a3, a4, a5, a6, a7, a8, a9, a10, a11, a12, a13, a14, a15, a16, a17, a18, a19, a20, a21, a22, a23, a24, a25, a26, ()).snd.snd.snd.snd.snd.snd.snd.snd.snd.snd.snd.snd.snd.snd.snd.snd.snd.snd.snd.snd.snd.snd.snd.fst, vI a27, vI a28, vI a29, vB a30], obs := [], outs := [] })) := by kernel_rfl
theorem h115 : G1Ok Tryd.prog 115 g115 := by
  intro args obs k h
  unfold g115 at h
  split at h
  · rename_i k us
    split at h
    rotate_left
    · exact h.elim
    rename_i a ha
    obtain rfl := elemOf_inv ha
    obtain ⟨a0, a1, a2, a3, a4, a5, a6, a7, a8, a9, a10, a11, a12, a13, a14, a15, a16, a17, a18, a19, a20, a21, a22, a23, a24, a25, a26, a27, a28, a29, a30, ⟨⟩⟩ := a
    refine ⟨_, ctr_fn ok0 hg115 Tryd.func115 (by kernel_rfl) (by kernel_rfl) (by kernel_rfl) fun C => ?_, h⟩
    show bodyP E0 G115 _ Tryd.f115 [.agg [.val (.string a0), .val (.int .i64 a1), .val (.string a2), .val (.int .i64 a3), .val (.int .i64 a4), .val (.int .i64 a5), .val (.int .i64 a6), .val (.int .i64 a7), .val (.int .i64 a8), .val (.int .i64 a9), .val (.int .i64 a10), .val (.int .i64 a11), .val (.int .i64 a12), .val (.int .i64 a13), .val (.int .i64 a14), .val (.int .i64 a15), .val (.int .i64 a16), .val (.int .i64 a17), .val (.int .i64 a18), .val (.int .i64 a19), .val (.int .i64 a20), .val (.int .i64 a21), .val (.int .i64 a22), .val (.int .i64 a23), .val (.int .i64 a24), .val (.int .i64 a25), .val (.int .i64 a26), .val (.int .i64 a27), .val (.int .i64 a28), .val (.int .i64 a29), .val (.bool a30)]] [] _
    rw [e115]
    rfl
  · exact h.elim
def g58 : G1
  | [.rsl cxs xs0], [], k => match castE kc cxs xs0 with
    | some xs => br (decide (xs.length ≤ 1048576)) (k ⟨.ows 0, [.row kc xs], []⟩) False
    | _ => False
  | _, _, _ => False
noncomputable def E58 : Env := E0.of Tryd.f58
noncomputable def G58 : Gk := gk [(115, g115)]
noncomputable def lp58 (n : Nat) : Code := (loopOf n (codeOf Tryd.f58)).getD .skip
noncomputable def ct58 (L : Lp) (R : Option Res → Prop) (n : Nat) : Kt := contOf E58 G58 L n (codeOf Tryd.f58) (endK E58 Tryd.f58.results.toList R)
noncomputable def rk58 (L : Lp) (R : Option Res → Prop) (n : Nat) (N : St → Prop) : Kt := rk (jof E58 (lp58 n)) N (ct58 L R n)
noncomputable def rkn58 (L : Lp) (R : Option Res → Prop) (n : Nat) (N : St → Prop) (m : Nat) (N2 : St → Prop) : Kt := rk (jof E58 (lp58 m)) N2 (contOf E58 G58 L m (lp58 n) (rk58 L R n N))
noncomputable def LOOPN58 (L : Lp) (R : Option Res → Prop) (n : Nat) (N : St → Prop) (m : Nat) (st : St) : Prop := L (lp58 m) st (contOf E58 G58 L m (lp58 n) (rk58 L R n N))
noncomputable def LOOP58 (L : Lp) (R : Option Res → Prop) (n : Nat) (st : St) : Prop := L (lp58 n) st (ct58 L R n)
theorem hg58 : HG Tryd.prog G58 := (hg_cons h115 hg_nil)
theorem okf58 : Ok Tryd.prog E58 := ok0.of Tryd.f58
theorem e58 (L : Lp) (R : Option Res → Prop) (xs : List (Elem kc)) : (bodyP E0 G58 L Tryd.f58 [.rsl kc xs] [] R) = (
    br (decide (0 ≤ (↑xs.length : Int) ∧ (↑xs.length : Int) ≤ (↑xs.length : Int) ∧ 264 * (↑xs.length : Int) ≤ 281474976710656)) (LOOP58 L R 3 { tm := [AV.rsl kc xs, vU, AV.ows 0, AV.ows 1, vI 0, vJ, vJ, vJ, vJ, vJ, vJ, vJ, vJ, vJ, vJ, vJ, vJ, vJ, vJ, vJ, vJ, vJ, vU], ob := [(0, AO.row kc []), (1, AO.row kc (List.replicate (↑xs.length : Int).toNat (edflt kc)))], nx := 1000000, ps := [] }) False) := by kernel_rfl
def st58 (xs : List (Elem kc)) (i : Int) (ys : List (Elem kc)) : St :=  ⟨[AV.rsl kc xs, vU, AV.ows 0, AV.ows 1, .val (.int .i64 i), vJ, vJ, vJ, vJ, vJ, vJ, vJ, vJ, vJ, vJ, vJ, vJ, vJ, vJ, vJ, vJ, vJ, vU], [(0, AO.row kc []), (1, .row kc ys)], 1000000, []⟩
theorem b58 (L : Lp) (R : Option Res → Prop) (N : St → Prop) (xs : List (Elem kc)) (i : Int) (ys : List (Elem kc)) : (evP E58 G58 L (lp58 3) (st58 xs i ys) (rk58 L R 3 N)) = (
    br (decide (i < (↑xs.length : Int))) (br (decide (0 ≤ i ∧ i < (↑xs.length : Int))) (br (decide (0 ≤ i ∧ i < (↑ys.length : Int))) (N { tm := [AV.rsl kc xs, vU, AV.ows 0, AV.ows 1, vI (IntKind.i64.wrap (i + 1)), vJ, vJ, vJ, vJ, vJ, vJ, vJ, vJ, vJ, vJ, vJ, vJ, vJ, vJ, vJ, vJ, vJ, vU], ob := [(0, AO.row kc []), (1, AO.row kc (ys.set i.toNat (xs.getD i.toNat (edflt kc))))], nx := 1000000, ps := [] }) False) False) (R (some { av := AV.ows 0, obs := [AO.row kc ys], outs := [] }))) := by kernel_rfl
theorem h58 : G1Ok Tryd.prog 58 g58 := by
  intro args obs k h
  unfold g58 at h
  split at h
  · rename_i k cxs xs0
    split at h
    rotate_left
    · exact h.elim
    rename_i xs hxs
    cases castE_inv hxs
    obtain ⟨hlen, h⟩ := brd h
    refine ⟨_, ctr_fn ok0 hg58 Tryd.func58 (by kernel_rfl) (by kernel_rfl) (by kernel_rfl) fun C => ?_, h⟩
    rw [e58]
    refine br_yes ⟨by omega, by omega, by omega⟩ ?_
    exact loopUp okf58 hg58 (fun i ys => st58 xs i ys) xs.length (Cp xs) (fun N i ys hi hc next => by
      show evP E58 G58 _ (lp58 3) (st58 xs i ys) (rk58 _ _ 3 _)
      rw [b58, wrap_id (n := (i : Int) + 1) (by omega) (by omega), Int.toNat_natCast]
      have hl := hc.len
      refine br_dec (fun h2 => ?_) (fun h2 => ?_)
      · refine br_yes ⟨by omega, h2⟩ (br_yes ⟨by omega, by omega⟩ ?_)
        exact next (by omega) _ (hc.next (by omega))
      · show _ = _
        rw [hc.done (by omega)]) _ (Cp.zero xs _)
  · exact h.elim
def g60 : G1
  | [.rsl [.int .i64, .int .i64, .int .i64] xs], [], k => br (decide (xs.length ≤ 1048576)) (k ⟨.ows 0, [.row k3 xs], []⟩) False
  | _, _, _ => False
noncomputable def E60 : Env := E0.of Tryd.f60
noncomputable def G60 : Gk := gk [(117, g117)]
noncomputable def lp60 (n : Nat) : Code := (loopOf n (codeOf Tryd.f60)).getD .skip
noncomputable def ct60 (L : Lp) (R : Option Res → Prop) (n : Nat) : Kt := contOf E60 G60 L n (codeOf Tryd.f60) (endK E60 Tryd.f60.results.toList R)
noncomputable def rk60 (L : Lp) (R : Option Res → Prop) (n : Nat) (N : St → Prop) : Kt := rk (jof E60 (lp60 n)) N (ct60 L R n)
noncomputable def rkn60 (L : Lp) (R : Option Res → Prop) (n : Nat) (N : St → Prop) (m : Nat) (N2 : St → Prop) : Kt := rk (jof E60 (lp60 m)) N2 (contOf E60 G60 L m (lp60 n) (rk60 L R n N))
noncomputable def LOOPN60 (L : Lp) (R : Option Res → Prop) (n : Nat) (N : St → Prop) (m : Nat) (st : St) : Prop := L (lp60 m) st (contOf E60 G60 L m (lp60 n) (rk60 L R n N))
noncomputable def LOOP60 (L : Lp) (R : Option Res → Prop) (n : Nat) (st : St) : Prop := L (lp60 n) st (ct60 L R n)
theorem hg60 : HG Tryd.prog G60 := (hg_cons h117 hg_nil)
theorem okf60 : Ok Tryd.prog E60 := ok0.of Tryd.f60
theorem e60 (L : Lp) (R : Option Res → Prop) (xs : List (Elem k3)) : (bodyP E0 G60 L Tryd.f60 [.rsl k3 xs] [] R) = (
    br (decide (0 ≤ (↑xs.length : Int) ∧ (↑xs.length : Int) ≤ (↑xs.length : Int) ∧ 24 * (↑xs.length : Int) ≤ 281474976710656)) (LOOP60 L R 3 { tm := [AV.rsl k3 xs, vU, AV.ows 0, AV.ows 1, vI 0, vJ, vJ, vJ, vJ, vJ, vJ, vJ, vJ, vJ, vJ, vJ, vJ, vJ, vJ, vJ, vJ, vJ, vU], ob := [(0, AO.row k3 []), (1, AO.row k3 (List.replicate (↑xs.length : Int).toNat (edflt k3)))], nx := 1000000, ps := [] }) False) := by kernel_rfl
def st60 (xs : List (Elem k3)) (i : Int) (ys : List (Elem k3)) : St :=  ⟨[AV.rsl k3 xs, vU, AV.ows 0, AV.ows 1, .val (.int .i64 i), vJ, vJ, vJ, vJ, vJ, vJ, vJ, vJ, vJ, vJ, vJ, vJ, vJ, vJ, vJ, vJ, vJ, vU], [(0, AO.row k3 []), (1, .row k3 ys)], 1000000, []⟩
theorem b60 (L : Lp) (R : Option Res → Prop) (N : St → Prop) (xs : List (Elem k3)) (i : Int) (ys : List (Elem k3)) : (evP E60 G60 L (lp60 3) (st60 xs i ys) (rk60 L R 3 N)) = (
    br (decide (i < (↑xs.length : Int))) (br (decide (0 ≤ i ∧ i < (↑xs.length : Int))) (br (decide (0 ≤ i ∧ i < (↑ys.length : Int))) (N { tm := [AV.rsl k3 xs, vU, AV.ows 0, AV.ows 1, vI (IntKind.i64.wrap (i + 1)), vJ, vJ, vJ, vJ, vJ, vJ, vJ, vJ, vJ, vJ, vJ, vJ, vJ, vJ, vJ, vJ, vJ, vU], ob := [(0, AO.row k3 []), (1, AO.row k3 (ys.set i.toNat (xs.getD i.toNat (edflt k3))))], nx := 1000000, ps := [] }) False) False) (R (some { av := AV.ows 0, obs := [AO.row k3 ys], outs := [] }))) := by kernel_rfl
theorem h60 : G1Ok Tryd.prog 60 g60 := by
  intro args obs k h
  unfold g60 at h
  split at h
  · rename_i k xs
    obtain ⟨hlen, h⟩ := brd h
    refine ⟨_, ctr_fn ok0 hg60 Tryd.func60 (by kernel_rfl) (by kernel_rfl) (by kernel_rfl) fun C => ?_, h⟩
    rw [e60]
    refine br_yes ⟨by omega, by omega, by omega⟩ ?_
    exact loopUp okf60 hg60 (fun i ys => st60 xs i ys) xs.length (Cp xs) (fun N i ys hi hc next => by
      show evP E60 G60 _ (lp60 3) (st60 xs i ys) (rk60 _ _ 3 _)
      rw [b60, wrap_id (n := (i : Int) + 1) (by omega) (by omega), Int.toNat_natCast]
      have hl := hc.len
      refine br_dec (fun h2 => ?_) (fun h2 => ?_)
      · refine br_yes ⟨by omega, h2⟩ (br_yes ⟨by omega, by omega⟩ ?_)
        exact next (by omega) _ (hc.next (by omega))
      · show _ = _
        rw [hc.done (by omega)]) _ (Cp.zero xs _)
  · exact h.elim
def g61 : G1
  | [.rsl [.int .i64] xs], [], k => br (decide (xs.length ≤ 1048576)) (k ⟨.ows 0, [.row ki xs], []⟩) False
  | _, _, _ => False
noncomputable def E61 : Env := E0.of Tryd.f61
noncomputable def G61 : Gk := gk []
noncomputable def lp61 (n : Nat) : Code := (loopOf n (codeOf Tryd.f61)).getD .skip
noncomputable def ct61 (L : Lp) (R : Option Res → Prop) (n : Nat) : Kt := contOf E61 G61 L n (codeOf Tryd.f61) (endK E61 Tryd.f61.results.toList R)
noncomputable def rk61 (L : Lp) (R : Option Res → Prop) (n : Nat) (N : St → Prop) : Kt := rk (jof E61 (lp61 n)) N (ct61 L R n)
noncomputable def rkn61 (L : Lp) (R : Option Res → Prop) (n : Nat) (N : St → Prop) (m : Nat) (N2 : St → Prop) : Kt := rk (jof E61 (lp61 m)) N2 (contOf E61 G61 L m (lp61 n) (rk61 L R n N))
noncomputable def LOOPN61 (L : Lp) (R : Option Res → Prop) (n : Nat) (N : St → Prop) (m : Nat) (st : St) : Prop := L (lp61 m) st (contOf E61 G61 L m (lp61 n) (rk61 L R n N))
noncomputable def LOOP61 (L : Lp) (R : Option Res → Prop) (n : Nat) (st : St) : Prop := L (lp61 n) st (ct61 L R n)
theorem hg61 : HG Tryd.prog G61 := hg_nil
theorem okf61 : Ok Tryd.prog E61 := ok0.of Tryd.f61
theorem e61 (L : Lp) (R : Option Res → Prop) (xs : List (Elem ki)) : (bodyP E0 G61 L Tryd.f61 [.rsl ki xs] [] R) = (
    br (decide (0 ≤ (↑xs.length : Int) ∧ (↑xs.length : Int) ≤ (↑xs.length : Int) ∧ 8 * (↑xs.length : Int) ≤ 281474976710656)) (LOOP61 L R 3 { tm := [AV.rsl ki xs, vU, AV.ows 0, AV.ows 1, vI 0, vJ, vJ, vJ, vJ, vJ, vJ, vJ, vJ, vJ, vJ, vJ, vJ, vJ, vJ, vJ, vJ, vU], ob := [(0, AO.row ki []), (1, AO.row ki (List.replicate (↑xs.length : Int).toNat (edflt ki)))], nx := 1000000, ps := [] }) False) := by kernel_rfl
def st61 (xs : List (Elem ki)) (i : Int) (ys : List (Elem ki)) : St :=  ⟨[AV.rsl ki xs, vU, AV.ows 0, AV.ows 1, .val (.int .i64 i), vJ, vJ, vJ, vJ, vJ, vJ, vJ, vJ, vJ, vJ, vJ, vJ, vJ, vJ, vJ, vJ, vU], [(0, AO.row ki []), (1, .row ki ys)], 1000000, []⟩
theorem b61 (L : Lp) (R : Option Res → Prop) (N : St → Prop) (xs : List (Elem ki)) (i : Int) (ys : List (Elem ki)) : (evP E61 G61 L (lp61 3) (st61 xs i ys) (rk61 L R 3 N)) = (
    br (decide (i < (↑xs.length : Int))) (br (decide (0 ≤ i ∧ i < (↑xs.length : Int))) (br (decide (0 ≤ i ∧ i < (↑ys.length : Int))) (N { tm := [AV.rsl ki xs, vU, AV.ows 0, AV.ows 1, vI (IntKind.i64.wrap (i + 1)), vJ, vJ, vJ, vJ, vJ, vJ, vJ, vJ, vJ, vJ, vJ, vJ, vJ, vJ, vJ, vJ, vU], ob := [(0, AO.row ki []), (1, AO.row ki (ys.set i.toNat (xs.getD i.toNat (edflt ki))))], nx := 1000000, ps := [] }) False) False) (R (some { av := AV.ows 0, obs := [AO.row ki ys], outs := [] }))) := by kernel_rfl
theorem h61 : G1Ok Tryd.prog 61 g61 := by
  intro args obs k h
  unfold g61 at h
  split at h
  · rename_i k xs
    obtain ⟨hlen, h⟩ := brd h
    refine ⟨_, ctr_fn ok0 hg61 Tryd.func61 (by kernel_rfl) (by kernel_rfl) (by kernel_rfl) fun C => ?_, h⟩
    rw [e61]
    refine br_yes ⟨by omega, by omega, by omega⟩ ?_
    exact loopUp okf61 hg61 (fun i ys => st61 xs i ys) xs.length (Cp xs) (fun N i ys hi hc next => by
      show evP E61 G61 _ (lp61 3) (st61 xs i ys) (rk61 _ _ 3 _)
      rw [b61, wrap_id (n := (i : Int) + 1) (by omega) (by omega), Int.toNat_natCast]
      have hl := hc.len
      refine br_dec (fun h2 => ?_) (fun h2 => ?_)
      · refine br_yes ⟨by omega, h2⟩ (br_yes ⟨by omega, by omega⟩ ?_)
        exact next (by omega) _ (hc.next (by omega))
      · show _ = _
        rw [hc.done (by omega)]) _ (Cp.zero xs _)
  · exact h.elim
end Go.Proofs.YtljilcingbohkabDoor.Ev

