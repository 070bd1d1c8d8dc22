/- The law of CoreUber. -/
import Derived.Test.YtljilcingbohkabDoorD3T
namespace Go.Proofs.YtljilcingbohkabDoor.Ev
open Go
set_option linter.unusedVariables false
set_option linter.unusedSimpArgs false
set_option maxRecDepth 100000
def uberT (n a b c : Int) : ByteArray := match decide (1 ≤ n) && decide (n ≤ 1000000) && realP a b c with
  | true => sealT (dec n ++ ⟨#[32]⟩ ++ ptrT a b c ++ ⟨#[32]⟩ ++ dec n)
  | false => ByteArray.empty
def g99 : G1
  | [.val (.int .i64 n), .agg [.val (.int .i64 a), .val (.int .i64 b), .val (.int .i64 c)]], [], k => k ⟨.val (.string (uberT n a b c)), [], []⟩
  | _, _, _ => False
theorem ptrT_size (a b c : Int) : (ptrT a b c).size ≤ 1000000 := by
  unfold ptrT
  split
  · exact Nat.zero_le _
  · rename_i h1
    split
    · show 1 ≤ 1000000
      omega
    · obtain ⟨r1, r2, r3⟩ := ptr_range h1
      have s1 := dec_size (n := a) (by omega) (by omega)
      have s2 := dec_size (n := b) (by omega) (by omega)
      have s3 := dec_size (n := c) (by omega) (by omega)
      rw [ByteArray.size_append, ByteArray.size_append, ByteArray.size_append, ByteArray.size_append]
      show (dec a).size + 1 + (dec b).size + 1 + (dec c).size ≤ _
      omega
theorem uber_sizes {n : Int} (h0 : 1 ≤ n) (h1 : n ≤ 1000000) (a b c : Int) : (dec n).size + 1 ≤ 9223372036854775807 ∧ (dec n ++ ⟨#[32]⟩).size + (ptrT a b c).size ≤ 9223372036854775807 ∧ (dec n ++ ⟨#[32]⟩ ++ ptrT a b c).size + 1 ≤ 9223372036854775807 ∧
    (dec n ++ ⟨#[32]⟩ ++ ptrT a b c ++ ⟨#[32]⟩).size + (dec n).size ≤ 9223372036854775807 ∧ (dec n ++ ⟨#[32]⟩ ++ ptrT a b c ++ ⟨#[32]⟩ ++ dec n).size ≤ 4611686018427387904 := by
  have s1 := dec_size (n := n) (by omega) (by omega)
  have s2 := ptrT_size a b c
  have e : (⟨#[32]⟩ : ByteArray).size = 1 := rfl
  simp only [ByteArray.size_append, e]
  omega
noncomputable def E99 : Env := E0.of Tryd.f99
noncomputable def G99 : Gk := gk [(53, g120), (141, g141), (79, g79), (81, g81p)]
noncomputable def lp99 (n : Nat) : Code := (loopOf n (codeOf Tryd.f99)).getD .skip
noncomputable def ct99 (L : Lp) (R : Option Res → Prop) (n : Nat) : Kt := contOf E99 G99 L n (codeOf Tryd.f99) (endK E99 Tryd.f99.results.toList R)
noncomputable def rk99 (L : Lp) (R : Option Res → Prop) (n : Nat) (N : St → Prop) : Kt := rk (jof E99 (lp99 n)) N (ct99 L R n)
noncomputable def rkn99 (L : Lp) (R : Option Res → Prop) (n : Nat) (N : St → Prop) (m : Nat) (N2 : St → Prop) : Kt := rk (jof E99 (lp99 m)) N2 (contOf E99 G99 L m (lp99 n) (rk99 L R n N))
noncomputable def LOOPN99 (L : Lp) (R : Option Res → Prop) (n : Nat) (N : St → Prop) (m : Nat) (st : St) : Prop := L (lp99 m) st (contOf E99 G99 L m (lp99 n) (rk99 L R n N))
noncomputable def LOOP99 (L : Lp) (R : Option Res → Prop) (n : Nat) (st : St) : Prop := L (lp99 n) st (ct99 L R n)
theorem hg99 : HG Tryd.prog G99 := (hg_cons h53 (hg_cons h141 (hg_cons h79 (hg_cons h81p hg_nil))))
theorem okf99 : Ok Tryd.prog E99 := ok0.of Tryd.f99
theorem e99 (L : Lp) (R : Option Res → Prop) (n a b c : Int) : (bodyP E0 G99 L Tryd.f99 [.val (.int .i64 n), .agg [.val (.int .i64 a), .val (.int .i64 b), .val (.int .i64 c)]] [] R) = (
    br (decide (n < 1)) (R (some { av := vS { data := #[] }, obs := [], outs := [] })) (br (decide (n > 1000000)) (R (some { av := vS { data := #[] }, obs := [], outs := [] })) (br (!ptrOk a b c) (R (some { av := vS { data := #[] }, obs := [], outs := [] })) (br (a == 0) (R (some { av := vS { data := #[] }, obs := [], outs := [] })) (br (decide (0 ≤ n ∧ n ≤ 9223372036854775807)) (br (decide ((dec n).size + 1 ≤ 9223372036854775807)) (br (decide ((dec n ++ { data := #[32] }).size + (ptrT a b c).size ≤ 9223372036854775807)) (br (decide ((dec n ++ { data := #[32] } ++ ptrT a b c).size + 1 ≤ 9223372036854775807)) (br (decide (0 ≤ n ∧ n ≤ 9223372036854775807)) (br (decide ((dec n ++ { data := #[32] } ++ ptrT a b c ++ { data := #[32] }).size + (dec n).size ≤ 9223372036854775807)) (br (decide ((dec n ++ { data := #[32] } ++ ptrT a b c ++ { data := #[32] } ++ dec n).size ≤ 4611686018427387904)) (R (some { av := vS (sealT (dec n ++ { data := #[32] } ++ ptrT a b c ++ { data := #[32] } ++ dec n)), obs := [], outs := [] })) False) False) False) False) False) False) False))))) := by kernel_rfl
theorem h99 : G1Ok Tryd.prog 99 g99 := by
  intro args obs k h
  unfold g99 at h
  split at h
  · rename_i k n a b c
    refine ⟨_, ctr_fn ok0 hg99 Tryd.func99 (by kernel_rfl) (by kernel_rfl) (by kernel_rfl) fun C => ?_, h⟩
    rw [e99]
    refine br_dec (fun h1 => ?_) (fun h1 => br_dec (fun h2 => ?_) (fun h2 => br_not (fun h3 => ?_) (fun h3 => br_intro (fun h4 => ?_) (fun h4 => ?_))))
    · show _ = _
      unfold uberT
      rw [decide_eq_false (show ¬ 1 ≤ n by omega)]
      rfl
    · show _ = _
      unfold uberT
      rw [decide_eq_false (show ¬ n ≤ 1000000 by omega), Bool.and_false]
      rfl
    · show _ = _
      unfold uberT realP
      rw [h3, Bool.false_and, Bool.and_false]
      rfl
    · show _ = _
      unfold uberT realP
      rw [bne, h4, Bool.not_true, Bool.and_false, Bool.and_false]
      rfl
    obtain ⟨q1, q2, q3, q4, q5⟩ := uber_sizes (n := n) (by omega) (by omega) a b c
    refine br_yes (by omega) (br_yes q1 (br_yes q2 (br_yes q3 (br_yes (by omega) (br_yes q4 (br_yes q5 ?_))))))
    show _ = _
    unfold uberT realP
    rw [decide_eq_true (show 1 ≤ n by omega), decide_eq_true (show n ≤ 1000000 by omega), h3, bne, h4]
    rfl
  · exact h.elim
noncomputable def E102 : Env := E0.of Tryd.f102
noncomputable def G102 : Gk := gk [(62, g62), (66, g66), (83, g83), (142, g141), (84, g79)]
noncomputable def lp102 (n : Nat) : Code := (loopOf n (codeOf Tryd.f102)).getD .skip
noncomputable def ct102 (L : Lp) (R : Option Res → Prop) (n : Nat) : Kt := contOf E102 G102 L n (codeOf Tryd.f102) (endK E102 Tryd.f102.results.toList R)
noncomputable def rk102 (L : Lp) (R : Option Res → Prop) (n : Nat) (N : St → Prop) : Kt := rk (jof E102 (lp102 n)) N (ct102 L R n)
noncomputable def rkn102 (L : Lp) (R : Option Res → Prop) (n : Nat) (N : St → Prop) (m : Nat) (N2 : St → Prop) : Kt := rk (jof E102 (lp102 m)) N2 (contOf E102 G102 L m (lp102 n) (rk102 L R n N))
noncomputable def LOOPN102 (L : Lp) (R : Option Res → Prop) (n : Nat) (N : St → Prop) (m : Nat) (st : St) : Prop := L (lp102 m) st (contOf E102 G102 L m (lp102 n) (rk102 L R n N))
noncomputable def LOOP102 (L : Lp) (R : Option Res → Prop) (n : Nat) (st : St) : Prop := L (lp102 n) st (ct102 L R n)
theorem hg102 : HG Tryd.prog G102 := (hg_cons h62 (hg_cons h66 (hg_cons h83 (hg_cons h142 (hg_cons h84 hg_nil)))))
theorem okf102 : Ok Tryd.prog E102 := ok0.of Tryd.f102
theorem e102 (L : Lp) (R : Option Res → Prop) (n a b c : Int) : (bodyP E0 G102 L Tryd.f102 [.val (.int .i64 n), .agg [.val (.int .i64 a), .val (.int .i64 b), .val (.int .i64 c)]] [] R) = (
    br (!(decide (1 ≤ n) && decide (n ≤ 1000000))) (R (some { av := vS { data := #[] }, obs := [], outs := [] })) (br (!realP a b c) (R (some { av := vS { data := #[] }, obs := [], outs := [] })) (br (inN n) (br (decide ((dec n).size + 1 ≤ 9223372036854775807)) (br (decide ((dec n ++ { data := #[32] }).size + (ptrT a b c).size ≤ 9223372036854775807)) (br (decide ((dec n ++ { data := #[32] } ++ ptrT a b c).size + 1 ≤ 9223372036854775807)) (br (decide ((dec n ++ { data := #[32] } ++ ptrT a b c ++ { data := #[32] }).size + (dec n).size ≤ 9223372036854775807)) (br (decide ((dec n ++ { data := #[32] } ++ ptrT a b c ++ { data := #[32] } ++ dec n).size ≤ 4611686018427387904)) (R (some { av := vS (sealT (dec n ++ { data := #[32] } ++ ptrT a b c ++ { data := #[32] } ++ dec n)), obs := [], outs := [] })) False) False) False) False) False) False))) := by kernel_rfl
theorem h102 : G1Ok Tryd.prog 102 g99 := by
  intro args obs k h
  unfold g99 at h
  split at h
  · rename_i k n a b c
    refine ⟨_, ctr_fn ok0 hg102 Tryd.func102 (by kernel_rfl) (by kernel_rfl) (by kernel_rfl) fun C => ?_, h⟩
    rw [e102]
    refine br_not (fun h1 => ?_) (fun h1 => br_not (fun h2 => ?_) (fun h2 => ?_))
    · show _ = _
      unfold uberT
      rw [h1]
      rfl
    · show _ = _
      unfold uberT
      rw [h2, Bool.and_false]
      rfl
    have h1' := h1
    simp only [Bool.and_eq_true, decide_eq_true_eq] at h1'
    obtain ⟨q1, q2, q3, q4, q5⟩ := uber_sizes (n := n) (by omega) (by omega) a b c
    refine br_t (inN_of (by omega) (by omega)) (br_yes q1 (br_yes q2 (br_yes q3 (br_yes q4 (br_yes q5 ?_)))))
    show _ = _
    unfold uberT
    rw [h1, h2]
    rfl
  · exact h.elim
end Go.Proofs.YtljilcingbohkabDoor.Ev
