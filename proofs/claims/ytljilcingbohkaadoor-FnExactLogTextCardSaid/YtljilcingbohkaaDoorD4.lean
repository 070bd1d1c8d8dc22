/- The law of CoreUber. -/
import Derived.Test.YtljilcingbohkaaDoorD3
namespace Go.Proofs.YtljilcingbohkaaDoor.Ev
open Go
set_option linter.unusedVariables false
set_option linter.unusedSimpArgs false
set_option maxRecDepth 100000
def realP (a b c : Int) : Bool := ptrOk a b c && (a != 0)
def g55 : G1
  | [.agg [.val (.int .i64 a), .val (.int .i64 b), .val (.int .i64 c)]], [], k => k ⟨.val (.bool (realP a b c)), [], []⟩
  | _, _, _ => False
noncomputable def E55 : Env := E0.of Tryd.f55
noncomputable def G55 : Gk := gk [(50, g50)]
noncomputable def lp55 (n : Nat) : Code := (loopOf n (codeOf Tryd.f55)).getD .skip
noncomputable def ct55 (L : Lp) (R : Option Res → Prop) (n : Nat) : Kt := contOf E55 G55 L n (codeOf Tryd.f55) (endK E55 Tryd.f55.results.toList R)
noncomputable def rk55 (L : Lp) (R : Option Res → Prop) (n : Nat) (N : St → Prop) : Kt := rk (jof E55 (lp55 n)) N (ct55 L R n)
noncomputable def LOOP55 (L : Lp) (R : Option Res → Prop) (n : Nat) (st : St) : Prop := L (lp55 n) st (ct55 L R n)
theorem hg55 : HG Tryd.prog G55 := (hg_cons h50 hg_nil)
theorem okf55 : Ok Tryd.prog E55 := ok0.of Tryd.f55
theorem e55 (L : Lp) (R : Option Res → Prop) (a b c : Int) : (bodyP E0 G55 L Tryd.f55 [.agg [.val (.int .i64 a), .val (.int .i64 b), .val (.int .i64 c)]] [] R) = (
    br (ptrOk a b c) (R (some { av := vB (a != 0), obs := [], outs := [] })) (R (some { av := vB false, obs := [], outs := [] }))) := by kernel_rfl
theorem h55 : G1Ok Tryd.prog 55 g55 := by
  intro args obs k h
  unfold g55 at h
  split at h
  · rename_i k a b c
    refine ⟨_, ctr_fn ok0 hg55 Tryd.func55 (by kernel_rfl) (by kernel_rfl) (by kernel_rfl) fun C => ?_, h⟩
    rw [e55]
    refine br_intro (fun h => ?_) (fun h => ?_) <;> show _ = _ <;> unfold realP <;> rw [h] <;> rfl
  · exact h.elim
theorem realP_gt {x y z : Int} (h : ptrOk x y z = true) : realP x y z = decide (x > 0) := by
  unfold realP
  rw [h, Bool.true_and]
  simp only [ptrOk, Bool.or_eq_true, Bool.and_eq_true, decide_eq_true_eq, beq_iff_eq] at h
  rw [Bool.eq_iff_iff]
  simp only [bne_iff_ne, decide_eq_true_eq]
  omega
def uberT (n a b c : Int) : ByteArray := match decide (1 ≤ n) && decide (n ≤ 1000000) && realP a b c with
  | true => sealT (dec n ++ ⟨#[32]⟩ ++ ptrT a b c ++ ⟨#[32]⟩ ++ dec n)
  | false => ByteArray.empty
def g25 : G1
  | [.val (.int .i64 n), .agg [.val (.int .i64 a), .val (.int .i64 b), .val (.int .i64 c)]], [], k => k ⟨.val (.string (uberT n a b c)), [], []⟩
  | _, _, _ => False
theorem ptrT_size (a b c : Int) : (ptrT a b c).size ≤ 1000000 := by
  unfold ptrT
  split
  · exact Nat.zero_le _
  · rename_i h1
    split
    · show 1 ≤ 1000000
      omega
    · obtain ⟨r1, r2, r3⟩ := ptr_range h1
      have s1 := dec_size (n := a) (by omega) (by omega)
      have s2 := dec_size (n := b) (by omega) (by omega)
      have s3 := dec_size (n := c) (by omega) (by omega)
      rw [ByteArray.size_append, ByteArray.size_append, ByteArray.size_append, ByteArray.size_append]
      show (dec a).size + 1 + (dec b).size + 1 + (dec c).size ≤ _
      omega
theorem uber_sizes {n : Int} (h0 : 1 ≤ n) (h1 : n ≤ 1000000) (a b c : Int) : (dec n).size + 1 ≤ 9223372036854775807 ∧ (dec n ++ ⟨#[32]⟩).size + (ptrT a b c).size ≤ 9223372036854775807 ∧ (dec n ++ ⟨#[32]⟩ ++ ptrT a b c).size + 1 ≤ 9223372036854775807 ∧
    (dec n ++ ⟨#[32]⟩ ++ ptrT a b c ++ ⟨#[32]⟩).size + (dec n).size ≤ 9223372036854775807 ∧ (dec n ++ ⟨#[32]⟩ ++ ptrT a b c ++ ⟨#[32]⟩ ++ dec n).size ≤ 4611686018427387904 := by
  have s1 := dec_size (n := n) (by omega) (by omega)
  have s2 := ptrT_size a b c
  have e : (⟨#[32]⟩ : ByteArray).size = 1 := rfl
  simp only [ByteArray.size_append, e]
  omega
noncomputable def E25 : Env := E0.of Tryd.f25
noncomputable def G25 : Gk := gk [(49, g50), (13, g13), (17, g17), (43, g43p)]
noncomputable def lp25 (n : Nat) : Code := (loopOf n (codeOf Tryd.f25)).getD .skip
noncomputable def ct25 (L : Lp) (R : Option Res → Prop) (n : Nat) : Kt := contOf E25 G25 L n (codeOf Tryd.f25) (endK E25 Tryd.f25.results.toList R)
noncomputable def rk25 (L : Lp) (R : Option Res → Prop) (n : Nat) (N : St → Prop) : Kt := rk (jof E25 (lp25 n)) N (ct25 L R n)
noncomputable def LOOP25 (L : Lp) (R : Option Res → Prop) (n : Nat) (st : St) : Prop := L (lp25 n) st (ct25 L R n)
theorem hg25 : HG Tryd.prog G25 := (hg_cons h49 (hg_cons h13 (hg_cons h17 (hg_cons h43p hg_nil))))
theorem okf25 : Ok Tryd.prog E25 := ok0.of Tryd.f25
theorem e25 (L : Lp) (R : Option Res → Prop) (n a b c : Int) : (bodyP E0 G25 L Tryd.f25 [.val (.int .i64 n), .agg [.val (.int .i64 a), .val (.int .i64 b), .val (.int .i64 c)]] [] R) = (
    br (decide (n < 1)) (R (some { av := vS { data := #[] }, obs := [], outs := [] })) (br (decide (n > 1000000)) (R (some { av := vS { data := #[] }, obs := [], outs := [] })) (br (!ptrOk a b c) (R (some { av := vS { data := #[] }, obs := [], outs := [] })) (br (a == 0) (R (some { av := vS { data := #[] }, obs := [], outs := [] })) (br (decide (0 ≤ n ∧ n ≤ 9223372036854775807)) (br (decide ((dec n).size + 1 ≤ 9223372036854775807)) (br (decide ((dec n ++ { data := #[32] }).size + (ptrT a b c).size ≤ 9223372036854775807)) (br (decide ((dec n ++ { data := #[32] } ++ ptrT a b c).size + 1 ≤ 9223372036854775807)) (br (decide (0 ≤ n ∧ n ≤ 9223372036854775807)) (br (decide ((dec n ++ { data := #[32] } ++ ptrT a b c ++ { data := #[32] }).size + (dec n).size ≤ 9223372036854775807)) (br (decide ((dec n ++ { data := #[32] } ++ ptrT a b c ++ { data := #[32] } ++ dec n).size ≤ 4611686018427387904)) (R (some { av := vS (sealT (dec n ++ { data := #[32] } ++ ptrT a b c ++ { data := #[32] } ++ dec n)), obs := [], outs := [] })) False) False) False) False) False) False) False))))) := by kernel_rfl
theorem h25 : G1Ok Tryd.prog 25 g25 := by
  intro args obs k h
  unfold g25 at h
  split at h
  · rename_i k n a b c
    refine ⟨_, ctr_fn ok0 hg25 Tryd.func25 (by kernel_rfl) (by kernel_rfl) (by kernel_rfl) fun C => ?_, h⟩
    rw [e25]
    refine br_dec (fun h1 => ?_) (fun h1 => br_dec (fun h2 => ?_) (fun h2 => br_not (fun h3 => ?_) (fun h3 => br_intro (fun h4 => ?_) (fun h4 => ?_))))
    · show _ = _
      unfold uberT
      rw [decide_eq_false (show ¬ 1 ≤ n by omega)]
      rfl
    · show _ = _
      unfold uberT
      rw [decide_eq_false (show ¬ n ≤ 1000000 by omega), Bool.and_false]
      rfl
    · show _ = _
      unfold uberT realP
      rw [h3, Bool.false_and, Bool.and_false]
      rfl
    · show _ = _
      unfold uberT realP
      rw [bne, h4, Bool.not_true, Bool.and_false, Bool.and_false]
      rfl
    obtain ⟨q1, q2, q3, q4, q5⟩ := uber_sizes (n := n) (by omega) (by omega) a b c
    refine br_yes (by omega) (br_yes q1 (br_yes q2 (br_yes q3 (br_yes (by omega) (br_yes q4 (br_yes q5 ?_))))))
    show _ = _
    unfold uberT realP
    rw [decide_eq_true (show 1 ≤ n by omega), decide_eq_true (show n ≤ 1000000 by omega), h3, bne, h4]
    rfl
  · exact h.elim
noncomputable def E26 : Env := E0.of Tryd.f26
noncomputable def G26 : Gk := gk [(47, g47), (55, g55), (45, g45), (14, g13), (19, g17)]
noncomputable def lp26 (n : Nat) : Code := (loopOf n (codeOf Tryd.f26)).getD .skip
noncomputable def ct26 (L : Lp) (R : Option Res → Prop) (n : Nat) : Kt := contOf E26 G26 L n (codeOf Tryd.f26) (endK E26 Tryd.f26.results.toList R)
noncomputable def rk26 (L : Lp) (R : Option Res → Prop) (n : Nat) (N : St → Prop) : Kt := rk (jof E26 (lp26 n)) N (ct26 L R n)
noncomputable def LOOP26 (L : Lp) (R : Option Res → Prop) (n : Nat) (st : St) : Prop := L (lp26 n) st (ct26 L R n)
theorem hg26 : HG Tryd.prog G26 := (hg_cons h47 (hg_cons h55 (hg_cons h45 (hg_cons h14 (hg_cons h19 hg_nil)))))
theorem okf26 : Ok Tryd.prog E26 := ok0.of Tryd.f26
theorem e26 (L : Lp) (R : Option Res → Prop) (n a b c : Int) : (bodyP E0 G26 L Tryd.f26 [.val (.int .i64 n), .agg [.val (.int .i64 a), .val (.int .i64 b), .val (.int .i64 c)]] [] R) = (
    br (!(decide (1 ≤ n) && decide (n ≤ 1000000))) (R (some { av := vS { data := #[] }, obs := [], outs := [] })) (br (!realP a b c) (R (some { av := vS { data := #[] }, obs := [], outs := [] })) (br (inN n) (br (decide ((dec n).size + 1 ≤ 9223372036854775807)) (br (decide ((dec n ++ { data := #[32] }).size + (ptrT a b c).size ≤ 9223372036854775807)) (br (decide ((dec n ++ { data := #[32] } ++ ptrT a b c).size + 1 ≤ 9223372036854775807)) (br (decide ((dec n ++ { data := #[32] } ++ ptrT a b c ++ { data := #[32] }).size + (dec n).size ≤ 9223372036854775807)) (br (decide ((dec n ++ { data := #[32] } ++ ptrT a b c ++ { data := #[32] } ++ dec n).size ≤ 4611686018427387904)) (R (some { av := vS (sealT (dec n ++ { data := #[32] } ++ ptrT a b c ++ { data := #[32] } ++ dec n)), obs := [], outs := [] })) False) False) False) False) False) False))) := by kernel_rfl
theorem h26 : G1Ok Tryd.prog 26 g25 := by
  intro args obs k h
  unfold g25 at h
  split at h
  · rename_i k n a b c
    refine ⟨_, ctr_fn ok0 hg26 Tryd.func26 (by kernel_rfl) (by kernel_rfl) (by kernel_rfl) fun C => ?_, h⟩
    rw [e26]
    refine br_not (fun h1 => ?_) (fun h1 => br_not (fun h2 => ?_) (fun h2 => ?_))
    · show _ = _
      unfold uberT
      rw [h1]
      rfl
    · show _ = _
      unfold uberT
      rw [h2, Bool.and_false]
      rfl
    have h1' := h1
    simp only [Bool.and_eq_true, decide_eq_true_eq] at h1'
    obtain ⟨q1, q2, q3, q4, q5⟩ := uber_sizes (n := n) (by omega) (by omega) a b c
    refine br_t (inN_of (by omega) (by omega)) (br_yes q1 (br_yes q2 (br_yes q3 (br_yes q4 (br_yes q5 ?_)))))
    show _ = _
    unfold uberT
    rw [h1, h2]
    rfl
  · exact h.elim
noncomputable def E8 : Env := E0.of Tryd.f8
noncomputable def G8 : Gk := gk [(18, g18), (25, g25), (26, g25)]
noncomputable def lp8 (n : Nat) : Code := (loopOf n (codeOf Tryd.f8)).getD .skip
noncomputable def ct8 (L : Lp) (R : Option Res → Prop) (n : Nat) : Kt := contOf E8 G8 L n (codeOf Tryd.f8) (endK E8 Tryd.f8.results.toList R)
noncomputable def rk8 (L : Lp) (R : Option Res → Prop) (n : Nat) (N : St → Prop) : Kt := rk (jof E8 (lp8 n)) N (ct8 L R n)
noncomputable def LOOP8 (L : Lp) (R : Option Res → Prop) (n : Nat) (st : St) : Prop := L (lp8 n) st (ct8 L R n)
theorem hg8 : HG Tryd.prog G8 := (hg_cons h18 (hg_cons h25 (hg_cons h26 hg_nil)))
theorem okf8 : Ok Tryd.prog E8 := ok0.of Tryd.f8
theorem e8 (L : Lp) (R : Option Res → Prop) (n a b c : Int) : (bodyP E0 G8 L Tryd.f8 [.val (.int .i64 n), .agg [.val (.int .i64 a), .val (.int .i64 b), .val (.int .i64 c)]] [] R) = (
    br (!strEq (uberT n a b c) (uberT n a b c)) (R (some { av := vB false, obs := [], outs := [] })) (R (some { av := vB true, obs := [], outs := [] }))) := by kernel_rfl
theorem c8 (n a b c : Int) : Ctr Tryd.prog 8 [.val (.int .i64 n), .agg [.val (.int .i64 a), .val (.int .i64 b), .val (.int .i64 c)]] [] ⟨.val (.bool true), [], []⟩ := by
  refine ctr_fn ok0 hg8 Tryd.func8 (by kernel_rfl) (by kernel_rfl) (by kernel_rfl) fun C => ?_
  rw [e8]
  refine br_not (fun h => ?_) (fun _ => rfl)
  rw [strEq_self] at h
  cases h
end Go.Proofs.YtljilcingbohkaaDoor.Ev
