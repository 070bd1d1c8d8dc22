/- The laws of BlkSide and BlkRead. -/
import Derived.Test.YtjhjhkphcemcmaaF12
namespace Go.Proofs.Ytjhjhkphcemcmaa.Ev
open Go
set_option linter.unusedVariables false
set_option linter.unusedSimpArgs false
set_option maxRecDepth 100000
def sumL (t : ByteArray) : Nat → Int
  | 0 => 1 + (t.size : Int).tmod 997
  | i + 1 => (257 * sumL t i + byteAt t i + 1).tmod 65521
def sumN (t : ByteArray) : Int := sumL t t.size
def g101 : G1
  | [.val (.string t)], [], k => br (decide (t.size ≤ 4611686018427387904)) (k ⟨.val (.int .i64 (sumN t)), [], []⟩) False
  | _, _, _ => False
theorem byteAt_lt (t : ByteArray) (i : Int) : 0 ≤ byteAt t i ∧ byteAt t i ≤ 255 := by
  unfold byteAt
  split
  · rename_i h
    have := (t[i.toNat]'h).toNat_lt
    omega
  · omega
theorem sumL_lt (t : ByteArray) : ∀ (i : Nat), 0 ≤ sumL t i ∧ sumL t i ≤ 65520
  | 0 => by
    show 0 ≤ 1 + (t.size : Int).tmod 997 ∧ 1 + (t.size : Int).tmod 997 ≤ 65520
    rw [Int.tmod_eq_emod_of_nonneg (by omega)]
    omega
  | i + 1 => by
    obtain ⟨h1, h2⟩ := sumL_lt t i
    obtain ⟨h3, h4⟩ := byteAt_lt t i
    show 0 ≤ (257 * sumL t i + byteAt t i + 1).tmod 65521 ∧ (257 * sumL t i + byteAt t i + 1).tmod 65521 ≤ 65520
    rw [Int.tmod_eq_emod_of_nonneg (by omega)]
    omega
theorem sumN_lt (t : ByteArray) : 0 ≤ sumN t ∧ sumN t ≤ 65520 := sumL_lt t _
theorem sum_start (t : ByteArray) : IntKind.i64.wrap (1 + (t.size : Int).tmod 997) = sumL t 0 := by
  have := sumL_lt t 0
  exact wrap_id (n := sumL t 0) (by omega) (by omega)
theorem sum_step (t : ByteArray) (i : Nat) : (IntKind.i64.wrap (IntKind.i64.wrap (IntKind.i64.wrap (257 * sumL t i) + IntKind.i64.wrap (byteAt t i)) + 1)).tmod 65521 = sumL t (i + 1) := by
  obtain ⟨h1, h2⟩ := sumL_lt t i
  obtain ⟨h3, h4⟩ := byteAt_lt t i
  rw [wrap_id (n := 257 * sumL t i) (by omega) (by omega), wrap_id (n := byteAt t i) (by omega) (by omega), wrap_id (n := 257 * sumL t i + byteAt t i) (by omega) (by omega), wrap_id (n := 257 * sumL t i + byteAt t i + 1) (by omega) (by omega)]
  rfl
noncomputable def E101 : Env := E0.of Try.f101
noncomputable def G101 : Gk := gk []
noncomputable def lp101 (n : Nat) : Code := (loopOf n (codeOf Try.f101)).getD .skip
noncomputable def ct101 (L : Lp) (R : Option Res → Prop) (n : Nat) : Kt := contOf E101 G101 L n (codeOf Try.f101) (endK E101 Try.f101.results.toList R)
noncomputable def rk101 (L : Lp) (R : Option Res → Prop) (n : Nat) (N : St → Prop) : Kt := rk (jof E101 (lp101 n)) N (ct101 L R n)
noncomputable def LOOP101 (L : Lp) (R : Option Res → Prop) (n : Nat) (st : St) : Prop := L (lp101 n) st (ct101 L R n)
theorem hg101 : HG Try.prog G101 := hg_nil
theorem okf101 : Ok Try.prog E101 := ok0.of Try.f101
theorem e101 (L : Lp) (R : Option Res → Prop) (t : ByteArray) : (bodyP E0 G101 L Try.f101 [.val (.string t)] [] R) = (
    LOOP101 L R 3
      {
        tm :=
          [AV.val (Value.string t), AV.val (Value.tuple #[]), AV.val (Value.int IntKind.i64 0),
            AV.val (Value.int IntKind.i64 (IntKind.i64.wrap (1 + (↑t.size : Int).tmod 997))),
            AV.val (Value.int IntKind.i64 0), AV.val (Value.string t), AV.val (Value.int IntKind.i64 (↑t.size : Int)),
            AV.val (Value.int IntKind.i64 ((↑t.size : Int).tmod 997)),
            AV.val (Value.int IntKind.i64 (IntKind.i64.wrap (1 + (↑t.size : Int).tmod 997))), AV.junk, AV.junk, AV.junk,
            AV.junk, AV.junk, AV.junk, AV.junk, AV.junk, AV.junk, AV.junk, AV.junk, AV.junk, AV.junk, AV.junk, AV.junk,
            AV.val (Value.tuple #[])],
        ob := [], nx := 1000000, ps := [] }) := by kernel_rfl
def st101 (t : ByteArray) (n i : Int) : St :=
  ⟨[AV.val (Value.string t), AV.val (Value.tuple #[]), AV.val (Value.int IntKind.i64 0), .val (.int .i64 n), .val (.int .i64 i), AV.val (Value.string t), AV.val (Value.int IntKind.i64 (↑t.size : Int)), AV.val (Value.int IntKind.i64 ((↑t.size : Int).tmod 997)), AV.val (Value.int IntKind.i64 (IntKind.i64.wrap (1 + (↑t.size : Int).tmod 997))), AV.junk, AV.junk, AV.junk, AV.junk, AV.junk, AV.junk, AV.junk, AV.junk, AV.junk, AV.junk, AV.junk, AV.junk, AV.junk, AV.junk, AV.junk, AV.val (Value.tuple #[])],
    [], 1000000, []⟩
theorem b101 (L : Lp) (R : Option Res → Prop) (N : St → Prop) (t : ByteArray) (n i : Int) : (evP E101 G101 L (lp101 3) (st101 t n i) (rk101 L R 3 N)) = (
    br (decide (i < (↑t.size : Int)))
      (br (decide (0 ≤ i ∧ i < (↑t.size : Int)))
        (N
          {
            tm :=
              [AV.val (Value.string t), AV.val (Value.tuple #[]), AV.val (Value.int IntKind.i64 0),
                AV.val
                  (Value.int IntKind.i64
                    ((IntKind.i64.wrap
                          (IntKind.i64.wrap (IntKind.i64.wrap (n * 257) + IntKind.i64.wrap (byteAt t i)) + 1)).tmod
                      65521)),
                AV.val (Value.int IntKind.i64 (IntKind.i64.wrap (i + 1))), AV.val (Value.string t),
                AV.val (Value.int IntKind.i64 (↑t.size : Int)),
                AV.val (Value.int IntKind.i64 ((↑t.size : Int).tmod (OfNat.ofNat 997))),
                AV.val (Value.int IntKind.i64 (IntKind.i64.wrap (1 + (↑t.size : Int).tmod (OfNat.ofNat 997)))), AV.junk,
                AV.junk, AV.junk, AV.junk, AV.junk, AV.junk, AV.junk, AV.junk, AV.junk, AV.junk, AV.junk, AV.junk, AV.junk,
                AV.junk, AV.junk, AV.val (Value.tuple #[])],
            ob := [], nx := 1000000, ps := [] })
        False)
      (R (some { av := AV.val (Value.int IntKind.i64 n), obs := [], outs := [] }))) := by kernel_rfl
theorem h101 : G1Ok Try.prog 101 g101 := by
  intro args obs k h
  unfold g101 at h
  split at h
  · rename_i k t
    obtain ⟨hlen, h⟩ := brd h
    refine ⟨_, ctr_fn ok0 hg101 Try.func101 (by kernel_rfl) (by kernel_rfl) (by kernel_rfl) fun C => ?_, h⟩
    rw [e101]
    refine loopUp okf101 hg101 (fun i n => st101 t n i) t.size (fun i n => n = sumL t i) (fun N i n hi hn next => ?_) _ (sum_start t)
    show evP E101 G101 _ (lp101 3) (st101 t n i) (rk101 _ _ 3 _)
    rw [b101, hn, wrap_id (n := (i : Int) + 1) (by omega) (by omega), Int.mul_comm (sumL t i) 257, sum_step]
    refine br_dec (fun h1 => br_yes ⟨by omega, h1⟩ ?_) (fun h1 => ?_)
    · exact next (by omega) _ rfl
    · show _ = _
      have : i = t.size := by omega
      rw [this]
      rfl
  · exact h.elim
noncomputable def E119 : Env := E0.of Try.f119
noncomputable def G119 : Gk := gk []
noncomputable def lp119 (n : Nat) : Code := (loopOf n (codeOf Try.f119)).getD .skip
noncomputable def ct119 (L : Lp) (R : Option Res → Prop) (n : Nat) : Kt := contOf E119 G119 L n (codeOf Try.f119) (endK E119 Try.f119.results.toList R)
noncomputable def rk119 (L : Lp) (R : Option Res → Prop) (n : Nat) (N : St → Prop) : Kt := rk (jof E119 (lp119 n)) N (ct119 L R n)
noncomputable def LOOP119 (L : Lp) (R : Option Res → Prop) (n : Nat) (st : St) : Prop := L (lp119 n) st (ct119 L R n)
theorem hg119 : HG Try.prog G119 := hg_nil
theorem okf119 : Ok Try.prog E119 := ok0.of Try.f119
theorem e119 (L : Lp) (R : Option Res → Prop) (t : ByteArray) : (bodyP E0 G119 L Try.f119 [.val (.string t)] [] R) = (
    LOOP119 L R 3
      {
        tm :=
          [AV.val (Value.string t), AV.val (Value.tuple #[]), AV.val (Value.int IntKind.i64 0),
            AV.val (Value.int IntKind.i64 (IntKind.i64.wrap (1 + (↑t.size : Int).tmod 997))), AV.junk,
            AV.val (Value.string t), AV.val (Value.int IntKind.i64 (↑t.size : Int)),
            AV.val (Value.int IntKind.i64 ((↑t.size : Int).tmod 997)),
            AV.val (Value.int IntKind.i64 (IntKind.i64.wrap (1 + (↑t.size : Int).tmod 997))), AV.val (Value.string t),
            AV.val (Value.int IntKind.i64 (↑t.size : Int)), AV.val (Value.int IntKind.i64 0), AV.junk, AV.junk, AV.junk,
            AV.junk, AV.junk, AV.junk, AV.junk, AV.junk, AV.junk, AV.junk, AV.junk, AV.junk, AV.val (Value.tuple #[])],
        ob := [], nx := 1000000, ps := [] }) := by kernel_rfl
def st119 (t : ByteArray) (n i : Int) : St :=
  ⟨[AV.val (Value.string t), AV.val (Value.tuple #[]), AV.val (Value.int IntKind.i64 0), .val (.int .i64 n), AV.junk, AV.val (Value.string t), AV.val (Value.int IntKind.i64 (↑t.size : Int)), AV.val (Value.int IntKind.i64 ((↑t.size : Int).tmod 997)), AV.val (Value.int IntKind.i64 (IntKind.i64.wrap (1 + (↑t.size : Int).tmod 997))), AV.val (Value.string t), AV.val (Value.int IntKind.i64 (↑t.size : Int)), .val (.int .i64 i), AV.junk, AV.junk, AV.junk, AV.junk, AV.junk, AV.junk, AV.junk, AV.junk, AV.junk, AV.junk, AV.junk, AV.junk, AV.val (Value.tuple #[])],
    [], 1000000, []⟩
theorem b119 (L : Lp) (R : Option Res → Prop) (N : St → Prop) (t : ByteArray) (n i : Int) : (evP E119 G119 L (lp119 3) (st119 t n i) (rk119 L R 3 N)) = (
    br (decide (i < (↑t.size : Int)))
      (br (decide (0 ≤ i ∧ i < (↑t.size : Int)))
        (N
          {
            tm :=
              [AV.val (Value.string t), AV.val (Value.tuple #[]), AV.val (Value.int IntKind.i64 0),
                AV.val
                  (Value.int IntKind.i64
                    ((IntKind.i64.wrap
                          (IntKind.i64.wrap (IntKind.i64.wrap (257 * n) + IntKind.i64.wrap (byteAt t i)) + 1)).tmod
                      65521)),
                AV.junk, AV.val (Value.string t), AV.val (Value.int IntKind.i64 (↑t.size : Int)),
                AV.val (Value.int IntKind.i64 ((↑t.size : Int).tmod (OfNat.ofNat 997))),
                AV.val (Value.int IntKind.i64 (IntKind.i64.wrap (1 + (↑t.size : Int).tmod (OfNat.ofNat 997)))),
                AV.val (Value.string t), AV.val (Value.int IntKind.i64 (↑t.size : Int)),
                AV.val (Value.int IntKind.i64 (IntKind.i64.wrap (i + 1))), AV.junk, AV.junk, AV.junk, AV.junk, AV.junk,
                AV.junk, AV.junk, AV.junk, AV.junk, AV.junk, AV.junk, AV.junk, AV.val (Value.tuple #[])],
            ob := [], nx := 1000000, ps := [] })
        False)
      (R (some { av := AV.val (Value.int IntKind.i64 n), obs := [], outs := [] }))) := by kernel_rfl
theorem h119 : G1Ok Try.prog 119 g101 := by
  intro args obs k h
  unfold g101 at h
  split at h
  · rename_i k t
    obtain ⟨hlen, h⟩ := brd h
    refine ⟨_, ctr_fn ok0 hg119 Try.func119 (by kernel_rfl) (by kernel_rfl) (by kernel_rfl) fun C => ?_, h⟩
    rw [e119]
    refine loopUp okf119 hg119 (fun i n => st119 t n i) t.size (fun i n => n = sumL t i) (fun N i n hi hn next => ?_) _ (sum_start t)
    show evP E119 G119 _ (lp119 3) (st119 t n i) (rk119 _ _ 3 _)
    rw [b119, hn, wrap_id (n := (i : Int) + 1) (by omega) (by omega), sum_step]
    refine br_dec (fun h1 => br_yes ⟨by omega, h1⟩ ?_) (fun h1 => ?_)
    · exact next (by omega) _ rfl
    · show _ = _
      have : i = t.size := by omega
      rw [this]
      rfl
  · exact h.elim
noncomputable def E102 : Env := E0.of Try.f102
noncomputable def G102 : Gk := gk [(20, g20)]
noncomputable def lp102 (n : Nat) : Code := (loopOf n (codeOf Try.f102)).getD .skip
noncomputable def ct102 (L : Lp) (R : Option Res → Prop) (n : Nat) : Kt := contOf E102 G102 L n (codeOf Try.f102) (endK E102 Try.f102.results.toList R)
noncomputable def rk102 (L : Lp) (R : Option Res → Prop) (n : Nat) (N : St → Prop) : Kt := rk (jof E102 (lp102 n)) N (ct102 L R n)
noncomputable def LOOP102 (L : Lp) (R : Option Res → Prop) (n : Nat) (st : St) : Prop := L (lp102 n) st (ct102 L R n)
theorem hg102 : HG Try.prog G102 := (hg_cons h20 hg_nil)
theorem okf102 : Ok Try.prog E102 := ok0.of Try.f102
theorem e102 (L : Lp) (R : Option Res → Prop) (a b c : Int) : (bodyP E0 G102 L Try.f102 [.agg [.val (.int .i64 a), .val (.int .i64 b), .val (.int .i64 c)]] [] R) = (
    br (ptrOk a b c) (R (some { av := AV.val (Value.bool (a != 0)), obs := [], outs := [] }))
      (R (some { av := AV.val (Value.bool false), obs := [], outs := [] }))) := by kernel_rfl
def realP (a b c : Int) : Bool := ptrOk a b c && (a != 0)
def g102 : G1
  | [.agg [.val (.int .i64 a), .val (.int .i64 b), .val (.int .i64 c)]], [], k => k ⟨.val (.bool (realP a b c)), [], []⟩
  | _, _, _ => False
def hasD (a b : List (Elem ks)) (c : List (Elem kl)) (x y s : Int) : Bool := secOk a.length s x && (sumN (rdD a b c s x) == y)
def g103 : G1
  | [.agg [.rsl [.str] a, .rsl [.str] b, .rsl [.int .i64, .int .i64, .str] c], .agg [.val (.int .i64 x), .val (.int .i64 y), .val (.int .i64 z)], .val (.int .i64 s)], [], k =>
    br (okD a b c) (k ⟨.val (.bool (hasD a b c x y s)), [], []⟩) False
  | _, _, _ => False
def sideD (a b : List (Elem ks)) (c : List (Elem kl)) (x y z s : Int) : Bool := okD a b c && realP x y z && hasD a b c x y s
def g53 : G1
  | [.agg [.rsl [.str] a, .rsl [.str] b, .rsl [.int .i64, .int .i64, .str] c], .agg [.val (.int .i64 x), .val (.int .i64 y), .val (.int .i64 z)], .val (.int .i64 s)], [], k =>
    br (smD a b c) (k ⟨.val (.bool (sideD a b c x y z s)), [], []⟩) False
  | _, _, _ => False
theorem h102 : G1Ok Try.prog 102 g102 := by
  intro args obs k h
  unfold g102 at h
  split at h
  · rename_i k a b c
    refine ⟨_, ctr_fn ok0 hg102 Try.func102 (by kernel_rfl) (by kernel_rfl) (by kernel_rfl) fun C => ?_, h⟩
    rw [e102]
    refine br_intro (fun h => ?_) (fun h => ?_) <;> show _ = _ <;> unfold realP <;> rw [h] <;> rfl
  · exact h.elim
/-- The texts of a valid disk are short. -/
theorem lkL_size {n : Nat} {c : List (Elem kl)} (h : anyBad n c = false) (s i : Int) : ∀ (q : Nat), q ≤ c.length → ∀ t, lkL c s i q = some t → t.size ≤ 420
  | 0, _, t, e => by cases e
  | q + 1, hq, t, e => by
    simp only [lkL] at e
    split at e
    · have hb := anyB_at h (i := q) (by omega)
      simp only [badL, Bool.or_eq_false_iff, decide_eq_false_iff_not] at hb
      cases e
      omega
    · exact lkL_size h s i q (by omega) t e
theorem long_at {xs : List (Elem ks)} (h : anyLong xs = false) (i : Nat) : (xs.getD i (edflt ks)).1.size ≤ 420 := by
  by_cases hi : i < xs.length
  · have := anyB_at h hi
    simp only [longT, decide_eq_false_iff_not] at this
    omega
  · rw [List.getD_eq_getElem?_getD, List.getElem?_eq_none (by omega)]
    show ByteArray.empty.size ≤ 420
    decide
theorem rdD_size {a b : List (Elem ks)} {c : List (Elem kl)} (h : okD a b c = true) (s i : Int) : (rdD a b c s i).size ≤ 420 := by
  simp only [okD, Bool.and_eq_true, Bool.not_eq_true'] at h
  obtain ⟨⟨⟨_, h1⟩, h2⟩, h3⟩ := h
  unfold rdD
  split
  · rename_i t e
    exact lkL_size h3 s i _ (Nat.le_refl _) t e
  · unfold sideAt
    split
    · exact long_at h1 _
    · exact long_at h2 _
noncomputable def E103 : Env := E0.of Try.f103
noncomputable def G103 : Gk := gk [(96, g96), (100, g99), (119, g101)]
noncomputable def lp103 (n : Nat) : Code := (loopOf n (codeOf Try.f103)).getD .skip
noncomputable def ct103 (L : Lp) (R : Option Res → Prop) (n : Nat) : Kt := contOf E103 G103 L n (codeOf Try.f103) (endK E103 Try.f103.results.toList R)
noncomputable def rk103 (L : Lp) (R : Option Res → Prop) (n : Nat) (N : St → Prop) : Kt := rk (jof E103 (lp103 n)) N (ct103 L R n)
noncomputable def LOOP103 (L : Lp) (R : Option Res → Prop) (n : Nat) (st : St) : Prop := L (lp103 n) st (ct103 L R n)
theorem hg103 : HG Try.prog G103 := (hg_cons h96 (hg_cons h100 (hg_cons h119 hg_nil)))
theorem okf103 : Ok Try.prog E103 := ok0.of Try.f103
theorem e103 (L : Lp) (R : Option Res → Prop) (a b : List (Elem ks)) (c : List (Elem kl)) (x y z s : Int) : (bodyP E0 G103 L Try.f103 [.agg [.rsl ks a, .rsl ks b, .rsl kl c], .agg [.val (.int .i64 x), .val (.int .i64 y), .val (.int .i64 z)], .val (.int .i64 s)] [] R) = (
    br (decide (a.length ≤ 1048576))
      (br (secOk a.length s x)
        (br (secOk a.length s x && (decide (b.length = a.length) && decide (c.length ≤ 1048576)))
          (br (decide ((rdD a b c s x).size ≤ 4611686018427387904))
            (R (some { av := AV.val (Value.bool (sumN (rdD a b c s x) == y)), obs := [], outs := [] })) False)
          False)
        (R (some { av := AV.val (Value.bool false), obs := [], outs := [] })))
      False) := by kernel_rfl
theorem h103 : G1Ok Try.prog 103 g103 := by
  intro args obs k h
  unfold g103 at h
  split at h
  · rename_i k a b c x y z s
    obtain ⟨ho, h⟩ := br_and h
    obtain ⟨q1, q2, q3⟩ := okD_b ho
    refine ⟨_, ctr_fn ok0 hg103 Try.func103 (by kernel_rfl) (by kernel_rfl) (by kernel_rfl) fun C => ?_, h⟩
    rw [e103]
    refine br_yes (by omega) (br_intro (fun h1 => br_t ?_ (br_yes ?_ ?_)) (fun h1 => ?_))
    · rw [h1, q1]
      simp
      omega
    · have := rdD_size ho s x
      omega
    · show _ = _
      unfold hasD
      rw [h1]
      rfl
    · show _ = _
      unfold hasD
      rw [h1]
      rfl
  · exact h.elim
noncomputable def E52 : Env := E0.of Try.f52
noncomputable def G52 : Gk := gk [(50, g50), (18, g20), (101, g101)]
noncomputable def lp52 (n : Nat) : Code := (loopOf n (codeOf Try.f52)).getD .skip
noncomputable def ct52 (L : Lp) (R : Option Res → Prop) (n : Nat) : Kt := contOf E52 G52 L n (codeOf Try.f52) (endK E52 Try.f52.results.toList R)
noncomputable def rk52 (L : Lp) (R : Option Res → Prop) (n : Nat) (N : St → Prop) : Kt := rk (jof E52 (lp52 n)) N (ct52 L R n)
noncomputable def LOOP52 (L : Lp) (R : Option Res → Prop) (n : Nat) (st : St) : Prop := L (lp52 n) st (ct52 L R n)
theorem hg52 : HG Try.prog G52 := (hg_cons h50 (hg_cons h18 (hg_cons h101 hg_nil)))
theorem okf52 : Ok Try.prog E52 := ok0.of Try.f52
theorem e52 (L : Lp) (R : Option Res → Prop) (a b : List (Elem ks)) (c : List (Elem kl)) (x y z s : Int) : (bodyP E0 G52 L Try.f52 [.agg [.rsl ks a, .rsl ks b, .rsl kl c], .agg [.val (.int .i64 x), .val (.int .i64 y), .val (.int .i64 z)], .val (.int .i64 s)] [] R) = (
    br (smD a b c)
      (br (okD a b c && secOk a.length s x)
        (br (ptrOk x y z)
          (br (decide (x > 0))
            (br
              (decide
                ((match okD a b c && secOk a.length s x with
                    | true => rdD a b c s x
                    | false => ByteArray.empty).size ≤
                  4611686018427387904))
              (R
                (some
                  {
                    av :=
                      AV.val
                        (Value.bool
                          (sumN
                              (match okD a b c && secOk a.length s x with
                              | true => rdD a b c s x
                              | false => ByteArray.empty) ==
                            y)),
                    obs := [], outs := [] }))
              False)
            (R (some { av := AV.val (Value.bool false), obs := [], outs := [] })))
          (R (some { av := AV.val (Value.bool false), obs := [], outs := [] })))
        (R (some { av := AV.val (Value.bool false), obs := [], outs := [] })))
      False) := by kernel_rfl
noncomputable def E53 : Env := E0.of Try.f53
noncomputable def G53 : Gk := gk [(45, g45), (102, g102), (103, g103)]
noncomputable def lp53 (n : Nat) : Code := (loopOf n (codeOf Try.f53)).getD .skip
noncomputable def ct53 (L : Lp) (R : Option Res → Prop) (n : Nat) : Kt := contOf E53 G53 L n (codeOf Try.f53) (endK E53 Try.f53.results.toList R)
noncomputable def rk53 (L : Lp) (R : Option Res → Prop) (n : Nat) (N : St → Prop) : Kt := rk (jof E53 (lp53 n)) N (ct53 L R n)
noncomputable def LOOP53 (L : Lp) (R : Option Res → Prop) (n : Nat) (st : St) : Prop := L (lp53 n) st (ct53 L R n)
theorem hg53 : HG Try.prog G53 := (hg_cons h45 (hg_cons h102 (hg_cons h103 hg_nil)))
theorem okf53 : Ok Try.prog E53 := ok0.of Try.f53
theorem e53 (L : Lp) (R : Option Res → Prop) (a b : List (Elem ks)) (c : List (Elem kl)) (x y z s : Int) : (bodyP E0 G53 L Try.f53 [.agg [.rsl ks a, .rsl ks b, .rsl kl c], .agg [.val (.int .i64 x), .val (.int .i64 y), .val (.int .i64 z)], .val (.int .i64 s)] [] R) = (
    br (smD a b c)
      (br (okD a b c)
        (br (realP x y z)
          (br (okD a b c) (R (some { av := AV.val (Value.bool (hasD a b c x y s)), obs := [], outs := [] })) False)
          (R (some { av := AV.val (Value.bool false), obs := [], outs := [] })))
        (R (some { av := AV.val (Value.bool false), obs := [], outs := [] })))
      False) := by kernel_rfl
theorem realP_gt {x y z : Int} (h : ptrOk x y z = true) : realP x y z = decide (x > 0) := by
  unfold realP
  rw [h, Bool.true_and]
  simp only [ptrOk, Bool.or_eq_true, Bool.and_eq_true, decide_eq_true_eq, beq_iff_eq] at h
  rw [Bool.eq_iff_iff]
  simp only [bne_iff_ne, decide_eq_true_eq]
  omega
theorem h53 : G1Ok Try.prog 53 g53 := by
  intro args obs k h
  unfold g53 at h
  split at h
  · rename_i k a b c x y z s
    obtain ⟨hp, h⟩ := br_and h
    refine ⟨_, ctr_fn ok0 hg53 Try.func53 (by kernel_rfl) (by kernel_rfl) (by kernel_rfl) fun C => ?_, h⟩
    rw [e53]
    refine br_t hp (br_intro (fun h1 => br_intro (fun h2 => br_t h1 ?_) (fun h2 => ?_)) (fun h1 => ?_)) <;> show _ = _ <;> unfold sideD <;> rw [h1]
    · rw [h2]
      rfl
    · rw [h2]
      rfl
    · rfl
  · exact h.elim
theorem h52 : G1Ok Try.prog 52 g53 := by
  intro args obs k h
  unfold g53 at h
  split at h
  · rename_i k a b c x y z s
    obtain ⟨hp, h⟩ := br_and h
    refine ⟨_, ctr_fn ok0 hg52 Try.func52 (by kernel_rfl) (by kernel_rfl) (by kernel_rfl) fun C => ?_, h⟩
    rw [e52]
    refine br_t hp (br_intro (fun h1 => br_intro (fun h2 => br_intro (fun h3 => br_yes ?_ ?_) (fun h3 => ?_)) (fun h2 => ?_)) (fun h1 => ?_))
    · rw [h1]
      rw [Bool.and_eq_true] at h1
      show (rdD a b c s x).size ≤ _
      have := rdD_size h1.1 s x
      omega
    · rw [h1]
      rw [Bool.and_eq_true] at h1
      show _ = _
      unfold sideD hasD
      rw [h1.1, h1.2, realP_gt h2, h3]
      rfl
    · show _ = _
      unfold sideD
      rw [realP_gt h2, h3, Bool.and_false]
      rfl
    · show _ = _
      unfold sideD realP
      rw [h2]
      simp
    · show _ = _
      rw [Bool.and_eq_false_iff] at h1
      unfold sideD hasD
      rcases h1 with h1 | h1 <;> rw [h1] <;> simp
  · exact h.elim
noncomputable def E13 : Env := E0.of Try.f13
noncomputable def G13 : Gk := gk [(19, g19), (37, g37), (40, g40), (42, g42), (52, g53), (53, g53)]
noncomputable def lp13 (n : Nat) : Code := (loopOf n (codeOf Try.f13)).getD .skip
noncomputable def ct13 (L : Lp) (R : Option Res → Prop) (n : Nat) : Kt := contOf E13 G13 L n (codeOf Try.f13) (endK E13 Try.f13.results.toList R)
noncomputable def rk13 (L : Lp) (R : Option Res → Prop) (n : Nat) (N : St → Prop) : Kt := rk (jof E13 (lp13 n)) N (ct13 L R n)
noncomputable def LOOP13 (L : Lp) (R : Option Res → Prop) (n : Nat) (st : St) : Prop := L (lp13 n) st (ct13 L R n)
theorem hg13 : HG Try.prog G13 := (hg_cons h19 (hg_cons h37 (hg_cons h40 (hg_cons h42 (hg_cons h52 (hg_cons h53 hg_nil))))))
theorem okf13 : Ok Try.prog E13 := ok0.of Try.f13
theorem e13 (L : Lp) (R : Option Res → Prop) (a b : List (Elem ks)) (c : List (Elem kl)) (x y z s : Int) : (bodyP E0 G13 L Try.f13 [.agg [.rsl ks a, .rsl ks b, .rsl kl c], .agg [.val (.int .i64 x), .val (.int .i64 y), .val (.int .i64 z)], .val (.int .i64 s)] [] R) = (
    br (inD a b c && true)
      (br (decide (szR 1048576 (szD a b c) < 0)) (R (some { av := AV.val (Value.bool true), obs := [], outs := [] }))
        (br (smD a b c)
          (br (smD a b c)
            (br (smD a b c)
              (br (smD a b c)
                (br (!sideD a b c x y z s == sideD a b c x y z s)
                  (R (some { av := AV.val (Value.bool false), obs := [], outs := [] }))
                  (br (smD a b c)
                    (br (smD a b c)
                      (br (!eqD a b c a b c) (R (some { av := AV.val (Value.bool false), obs := [], outs := [] }))
                        (R (some { av := AV.val (Value.bool true), obs := [], outs := [] })))
                      False)
                    False))
                False)
              False)
            False)
          False))
      False) := by kernel_rfl
theorem c13 (a b : List (Elem ks)) (c : List (Elem kl)) (x y z s : Int) (h : dOk a b c) :
    Ctr Try.prog 13 [.agg [.rsl ks a, .rsl ks b, .rsl kl c], .agg [.val (.int .i64 x), .val (.int .i64 y), .val (.int .i64 z)], .val (.int .i64 s)] [] ⟨.val (.bool true), [], []⟩ := by
  refine ctr_fn ok0 hg13 Try.func13 (by kernel_rfl) (by kernel_rfl) (by kernel_rfl) fun C => ?_
  rw [e13, inD_of h, eqD_self]
  refine br_t rfl (br_dec (fun _ => rfl) (fun h1 => ?_))
  have d1 := smD_of (by omega) h1
  refine br_t d1 (br_t d1 (br_t d1 (br_t d1 (br_intro (fun h => ?_) (fun _ => br_t d1 (br_t d1 (br_not (fun h => by cases h) (fun _ => rfl))))))))
  simp at h
end Go.Proofs.Ytjhjhkphcemcmaa.Ev
