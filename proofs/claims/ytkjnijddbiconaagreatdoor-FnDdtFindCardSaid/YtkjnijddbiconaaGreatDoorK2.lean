/- Valid disks. -/
import Derived.Test.YtkjnijddbiconaaGreatDoorK
namespace Go.Proofs.YtkjnijddbiconaaGreatDoor.Ev
open Go
set_option linter.unusedVariables false
set_option linter.unusedSimpArgs false
set_option maxRecDepth 100000
def g154 : G1
  | [.val (.string s)], [], k => k ⟨.val (.bool (decide ((s.size : Int) > 420))), [], []⟩
  | _, _, _ => False
def g213l : G1
  | [.rsl [.str] xs, .fn 154 []], [], k => br (decide (xs.length ≤ 1048576)) (k ⟨.val (.int .i64 (fIx xs.length fun i => longT (xs.getD i (edflt ks)))), [], []⟩) False
  | _, _, _ => False
def g153l : G1
  | [.rsl [.str] xs, .fn 154 []], [], k => br (decide (xs.length ≤ 1048576)) (k ⟨.val (.bool (anyLong xs)), [], []⟩) False
  | _, _, _ => False
def g157 : G1
  | [.agg [.rsl [.str] a, .rsl [.str] b, .rsl [.int .i64, .int .i64, .str] c], .val (.int .i64 s), .val (.int .i64 i)], [], k => br (decide (a.length ≤ 1048576)) (k ⟨.val (.bool (secOk a.length s i)), [], []⟩) False
  | _, _, _ => False
def g156 : G1
  | [.agg [.val (.int .i64 s), .val (.int .i64 i), .val (.string t)], .rpt [.rsl [.str] a, .rsl [.str] b, .rsl [.int .i64, .int .i64, .str] c]], [], k => br (decide (a.length ≤ 1048576)) (k ⟨.val (.bool (badL a.length (s, i, t, ()))), [], []⟩) False
  | _, _, _ => False
def g214 : G1
  | [.rsl [.int .i64, .int .i64, .str] xs, .fn 156 [.rpt [.rsl [.str] a, .rsl [.str] b, .rsl [.int .i64, .int .i64, .str] c]]], [], k =>
    br (decide (a.length ≤ 1048576) && decide (xs.length ≤ 1048576)) (k ⟨.val (.int .i64 (fIx xs.length fun i => badL a.length (xs.getD i (edflt kl)))), [], []⟩) False
  | _, _, _ => False
def g155 : G1
  | [.rsl [.int .i64, .int .i64, .str] xs, .fn 156 [.rpt [.rsl [.str] a, .rsl [.str] b, .rsl [.int .i64, .int .i64, .str] c]]], [], k =>
    br (decide (a.length ≤ 1048576) && decide (xs.length ≤ 1048576)) (k ⟨.val (.bool (anyBad a.length xs)), [], []⟩) False
  | _, _, _ => False
def g84 : G1
  | [.agg [.rsl [.str] a, .rsl [.str] b, .rsl [.int .i64, .int .i64, .str] c]], [], k => br (smD a b c) (k ⟨.val (.bool (dkOk a b c)), [], []⟩) False
  | _, _, _ => False
noncomputable def G154 : Gk := gk []
theorem hg154 : HG Tryz.prog G154 := hg_nil
theorem e154 (L : Lp) (R : Option Res → Prop) (s : ByteArray) : (bodyP E0 G154 L Tryz.f154 [.val (.string s)] [] R) = (
    R (some { av := vB (decide ((↑s.size : Int) > 420)), obs := [], outs := [] })) := by kernel_rfl
theorem h154 : G1Ok Tryz.prog 154 g154 := by
  intro args obs k h
  unfold g154 at h
  split at h
  · rename_i k s
    refine ⟨_, ctr_fn ok0 hg154 Tryz.func154 (by kernel_rfl) (by kernel_rfl) (by kernel_rfl) fun C => ?_, h⟩
    rw [e154]
  · exact h.elim
noncomputable def E213l : Env := E0.of Tryz.f213
noncomputable def G213l : Gk := gk [(154, g154)]
noncomputable def lp213l (n : Nat) : Code := (loopOf n (codeOf Tryz.f213)).getD .skip
noncomputable def ct213l (L : Lp) (R : Option Res → Prop) (n : Nat) : Kt := contOf E213l G213l L n (codeOf Tryz.f213) (endK E213l Tryz.f213.results.toList R)
noncomputable def rk213l (L : Lp) (R : Option Res → Prop) (n : Nat) (N : St → Prop) : Kt := rk (jof E213l (lp213l n)) N (ct213l L R n)
noncomputable def LOOP213l (L : Lp) (R : Option Res → Prop) (n : Nat) (st : St) : Prop := L (lp213l n) st (ct213l L R n)
theorem hg213l : HG Tryz.prog G213l := (hg_cons h154 hg_nil)
theorem okf213l : Ok Tryz.prog E213l := ok0.of Tryz.f213
theorem e213l (L : Lp) (R : Option Res → Prop) (xs : List (Elem ks)) : (bodyP E0 G213l L Tryz.f213 [.rsl ks xs, .fn 154 []] [] R) = (
    LOOP213l L R 2 { tm := [AV.rsl ks xs, AV.fn 154 [], vU, vU, vI 0, vJ, vJ, vI (↑xs.length : Int), vI 0, vJ, vJ, vJ, vJ, vJ, vJ, vJ, vJ, vJ, vJ], ob := [], nx := 1000000, ps := [] }) := by kernel_rfl
def st213l (xs : List (Elem ks)) (i : Int) : St :=  ⟨[AV.rsl ks xs, AV.fn 154 [], vU, vU, vI 0, vJ, vJ, vI (↑xs.length : Int), .val (.int .i64 i), vJ, vJ, vJ, vJ, vJ, vJ, vJ, vJ, vJ, vJ], [], 1000000, []⟩
theorem b213l (L : Lp) (R : Option Res → Prop) (N : St → Prop) (xs : List (Elem ks)) (i : Int) : (evP E213l G213l L (lp213l 2) (st213l xs i) (rk213l L R 2 N)) = (
    br (decide (i < (↑xs.length : Int))) (br (decide (0 ≤ i ∧ i < (↑xs.length : Int))) (br (decide ((↑(ByteArray.size (xs.getD i.toNat (edflt ks)).fst) : Int) > 420)) (R (some { av := vI i, obs := [], outs := [] })) (N { tm := [AV.rsl ks xs, AV.fn 154 [], vU, vU, vI 0, vJ, vJ, vI (↑xs.length : Int), vI (IntKind.i64.wrap (i + 1)), vJ, vJ, vJ, vJ, vJ, vJ, vJ, vJ, vJ, vJ], ob := [], nx := 1000000, ps := [] })) False) (R (some { av := vI (-1), obs := [], outs := [] }))) := by kernel_rfl
theorem h213l : G1Ok Tryz.prog 213 g213l := by
  intro args obs k h
  unfold g213l at h
  split at h
  · rename_i k xs
    obtain ⟨hlen, h⟩ := brd h
    refine ⟨_, ctr_fn ok0 hg213l Tryz.func213 (by kernel_rfl) (by kernel_rfl) (by kernel_rfl) fun C => ?_, h⟩
    rw [e213l]
    exact loopFind okf213l hg213l (fun i => st213l xs i) xs.length (fun i => longT (xs.getD i (edflt ks))) (by omega) (fun N i hi hw next found none => by
      show evP E213l G213l _ (lp213l 2) (st213l xs i) (rk213l _ _ 2 _)
      rw [b213l, hw, Int.toNat_natCast]
      refine br_dec (fun h2 => br_yes ⟨by omega, h2⟩ (br_intro (fun h3 => ?_) (fun h3 => ?_))) (fun h2 => ?_)
      · show _ = _
        rw [found (by omega) h3]
      · exact next (by omega) h3
      · show _ = _
        rw [none (by omega)])
  · exact h.elim
noncomputable def G153l : Gk := gk [(213, g213l)]
theorem hg153l : HG Tryz.prog G153l := (hg_cons h213l hg_nil)
theorem e153l (L : Lp) (R : Option Res → Prop) (xs : List (Elem ks)) : (bodyP E0 G153l L Tryz.f153 [.rsl ks xs, .fn 154 []] [] R) = (
    br (decide (xs.length ≤ 1048576)) (R (some { av := vB (decide ((fIx xs.length fun i => longT (xs.getD i (edflt ks))) ≥ 0)), obs := [], outs := [] })) False) := by kernel_rfl
theorem h153l : G1Ok Tryz.prog 153 g153l := by
  intro args obs k h
  unfold g153l at h
  split at h
  · rename_i k xs
    obtain ⟨hlen, h⟩ := brd h
    refine ⟨_, ctr_fn ok0 hg153l Tryz.func153 (by kernel_rfl) (by kernel_rfl) (by kernel_rfl) fun C => ?_, h⟩
    rw [e153l]
    refine br_yes hlen ?_
    show _ = _
    rw [fIx_ge]
    rfl
  · exact h.elim
noncomputable def G157 : Gk := gk [(129, g129)]
theorem hg157 : HG Tryz.prog G157 := (hg_cons h129 hg_nil)
theorem e157 (L : Lp) (R : Option Res → Prop) (a b : List (Elem ks)) (c : List (Elem kl)) (s i : Int) : (bodyP E0 G157 L Tryz.f157 [.agg [.rsl ks a, .rsl ks b, .rsl kl c], .val (.int .i64 s), .val (.int .i64 i)] [] R) = (
    br (decide (0 ≤ s) && decide (s ≤ 1)) (R (some { av := vB (decide (0 ≤ i) && decide (i ≤ IntKind.i64.wrap ((↑a.length : Int) - 1))), obs := [], outs := [] })) (R (some { av := vB false, obs := [], outs := [] }))) := by kernel_rfl
theorem h157 : G1Ok Tryz.prog 157 g157 := by
  intro args obs k h
  unfold g157 at h
  split at h
  · rename_i k a b c s i
    obtain ⟨hlen, h⟩ := brd h
    refine ⟨_, ctr_fn ok0 hg157 Tryz.func157 (by kernel_rfl) (by kernel_rfl) (by kernel_rfl) fun C => ?_, h⟩
    rw [e157]
    rw [wrap_id (n := (a.length : Int) - 1) (by omega) (by omega)]
    refine br_intro (fun h1 => ?_) (fun h1 => ?_) <;> show _ = _ <;> unfold secOk <;> rw [h1]
    · have : decide (i ≤ (a.length : Int) - 1) = decide (i < (a.length : Int)) := by
        apply decide_eq_decide.2
        omega
      rw [this]
      rfl
    · rfl
  · exact h.elim
noncomputable def G156 : Gk := gk [(154, g154), (157, g157)]
theorem hg156 : HG Tryz.prog G156 := (hg_cons h154 (hg_cons h157 hg_nil))
theorem e156 (L : Lp) (R : Option Res → Prop) (a b : List (Elem ks)) (c : List (Elem kl)) (s i : Int) (t : ByteArray) : (bodyP E0 G156 L Tryz.f156 [.agg [.val (.int .i64 s), .val (.int .i64 i), .val (.string t)], .rpt [.rsl ks a, .rsl ks b, .rsl kl c]] [] R) = (
    br (decide (a.length ≤ 1048576)) (br (!secOk a.length s i) (R (some { av := vB true, obs := [], outs := [] })) (R (some { av := vB (decide ((↑t.size : Int) > 420)), obs := [], outs := [] }))) False) := by kernel_rfl
theorem h156 : G1Ok Tryz.prog 156 g156 := by
  intro args obs k h
  unfold g156 at h
  split at h
  · rename_i k s i t a b c
    obtain ⟨hlen, h⟩ := brd h
    refine ⟨_, ctr_fn ok0 hg156 Tryz.func156 (by kernel_rfl) (by kernel_rfl) (by kernel_rfl) fun C => ?_, h⟩
    rw [e156]
    refine br_yes hlen (br_not (fun h1 => ?_) (fun h1 => ?_)) <;> show _ = _ <;> unfold badL <;> rw [h1] <;> rfl
  · exact h.elim
noncomputable def E214 : Env := E0.of Tryz.f214
noncomputable def G214 : Gk := gk [(156, g156)]
noncomputable def lp214 (n : Nat) : Code := (loopOf n (codeOf Tryz.f214)).getD .skip
noncomputable def ct214 (L : Lp) (R : Option Res → Prop) (n : Nat) : Kt := contOf E214 G214 L n (codeOf Tryz.f214) (endK E214 Tryz.f214.results.toList R)
noncomputable def rk214 (L : Lp) (R : Option Res → Prop) (n : Nat) (N : St → Prop) : Kt := rk (jof E214 (lp214 n)) N (ct214 L R n)
noncomputable def LOOP214 (L : Lp) (R : Option Res → Prop) (n : Nat) (st : St) : Prop := L (lp214 n) st (ct214 L R n)
theorem hg214 : HG Tryz.prog G214 := (hg_cons h156 hg_nil)
theorem okf214 : Ok Tryz.prog E214 := ok0.of Tryz.f214
theorem e214 (L : Lp) (R : Option Res → Prop) (a b : List (Elem ks)) (c xs : List (Elem kl)) : (bodyP E0 G214 L Tryz.f214 [.rsl kl xs, .fn 156 [.rpt [.rsl ks a, .rsl ks b, .rsl kl c]]] [] R) = (
    LOOP214 L R 2 { tm := [AV.rsl kl xs, AV.fn 156 [AV.rpt [AV.rsl ks a, AV.rsl ks b, AV.rsl kl c]], vU, vU, vI 0, vJ, vJ, vI (↑xs.length : Int), vI 0, vJ, vJ, vJ, vJ, vJ, vJ, vJ, vJ, vJ, vJ], ob := [], nx := 1000000, ps := [] }) := by kernel_rfl
def st214 (a b : List (Elem ks)) (c xs : List (Elem kl)) (i : Int) : St :=  ⟨[AV.rsl kl xs, AV.fn 156 [AV.rpt [AV.rsl ks a, AV.rsl ks b, AV.rsl kl c]], vU, vU, vI 0, vJ, vJ, vI (↑xs.length : Int), .val (.int .i64 i), vJ, vJ, vJ, vJ, vJ, vJ, vJ, vJ, vJ, vJ], [], 1000000, []⟩
theorem b214 (L : Lp) (R : Option Res → Prop) (N : St → Prop) (a b : List (Elem ks)) (c xs : List (Elem kl)) (i : Int) : (evP E214 G214 L (lp214 2) (st214 a b c xs i) (rk214 L R 2 N)) = (
    br (decide (i < (↑xs.length : Int))) (br (decide (0 ≤ i ∧ i < (↑xs.length : Int))) (br (decide (a.length ≤ 1048576)) (br (badL a.length (xs.getD i.toNat (edflt kl))) (R (some { av := vI i, obs := [], outs := [] })) (N { tm := [AV.rsl kl xs, AV.fn 156 [AV.rpt [AV.rsl ks a, AV.rsl ks b, AV.rsl kl c]], vU, vU, vI 0, vJ, vJ, vI (↑xs.length : Int), vI (IntKind.i64.wrap (i + 1)), vJ, vJ, vJ, vJ, vJ, vJ, vJ, vJ, vJ, vJ], ob := [], nx := 1000000, ps := [] })) False) False) (R (some { av := vI (-1), obs := [], outs := [] }))) := by kernel_rfl
theorem h214 : G1Ok Tryz.prog 214 g214 := by
  intro args obs k h
  unfold g214 at h
  split at h
  · rename_i k xs a b c
    obtain ⟨ha, hlen, h⟩ := brb2 h
    rw [decide_eq_true_eq] at hlen
    refine ⟨_, ctr_fn ok0 hg214 Tryz.func214 (by kernel_rfl) (by kernel_rfl) (by kernel_rfl) fun C => ?_, h⟩
    rw [e214]
    exact loopFind okf214 hg214 (fun i => st214 a b c xs i) xs.length (fun i => badL a.length (xs.getD i (edflt kl))) (by omega) (fun N i hi hw next found none => by
      show evP E214 G214 _ (lp214 2) (st214 a b c xs i) (rk214 _ _ 2 _)
      rw [b214, hw, Int.toNat_natCast]
      refine br_dec (fun h2 => br_yes ⟨by omega, h2⟩ (br_t ha (br_intro (fun h3 => ?_) (fun h3 => ?_)))) (fun h2 => ?_)
      · show _ = _
        rw [found (by omega) h3]
      · exact next (by omega) h3
      · show _ = _
        rw [none (by omega)])
  · exact h.elim
noncomputable def G155 : Gk := gk [(214, g214)]
theorem hg155 : HG Tryz.prog G155 := (hg_cons h214 hg_nil)
theorem e155 (L : Lp) (R : Option Res → Prop) (a b : List (Elem ks)) (c xs : List (Elem kl)) : (bodyP E0 G155 L Tryz.f155 [.rsl kl xs, .fn 156 [.rpt [.rsl ks a, .rsl ks b, .rsl kl c]]] [] R) = (
    br (decide (a.length ≤ 1048576) && decide (xs.length ≤ 1048576)) (R (some { av := vB (decide ((fIx xs.length fun i => badL a.length (xs.getD i (edflt kl))) ≥ 0)), obs := [], outs := [] })) False) := by kernel_rfl
theorem h155 : G1Ok Tryz.prog 155 g155 := by
  intro args obs k h
  unfold g155 at h
  split at h
  · rename_i k xs a b c
    obtain ⟨hp, h⟩ := br_and h
    refine ⟨_, ctr_fn ok0 hg155 Tryz.func155 (by kernel_rfl) (by kernel_rfl) (by kernel_rfl) fun C => ?_, h⟩
    rw [e155]
    refine br_t hp ?_
    show _ = _
    rw [fIx_ge]
    rfl
  · exact h.elim
noncomputable def G84 : Gk := gk [(129, g129), (153, g153l), (155, g155)]
theorem hg84 : HG Tryz.prog G84 := (hg_cons h129 (hg_cons h153l (hg_cons h155 hg_nil)))
theorem e84 (L : Lp) (R : Option Res → Prop) (a b : List (Elem ks)) (c : List (Elem kl)) : (bodyP E0 G84 L Tryz.f84 [.agg [.rsl ks a, .rsl ks b, .rsl kl c]] [] R) = (
    br (!(decide (1 ≤ (↑a.length : Int)) && decide ((↑a.length : Int) ≤ 120))) (R (some { av := vB false, obs := [], outs := [] })) (br ((↑b.length : Int) != (↑a.length : Int)) (R (some { av := vB false, obs := [], outs := [] })) (br (decide (a.length ≤ 1048576)) (br (anyLong a) (R (some { av := vB false, obs := [], outs := [] })) (br (decide (b.length ≤ 1048576)) (br (anyLong b) (R (some { av := vB false, obs := [], outs := [] })) (br (decide ((↑c.length : Int) ≤ 600)) (br (decide (a.length ≤ 1048576) && decide (c.length ≤ 1048576)) (R (some { av := vB !anyBad a.length c, obs := [], outs := [] })) False) (R (some { av := vB false, obs := [], outs := [] })))) False)) False))) := by kernel_rfl
theorem h84 : G1Ok Tryz.prog 84 g84 := by
  intro args obs k h
  unfold g84 at h
  split at h
  · rename_i k a b c
    unfold smD at h
    obtain ⟨hp, hc, h⟩ := brb2 h
    rw [Bool.and_eq_true] at hp
    refine ⟨_, ctr_fn ok0 hg84 Tryz.func84 (by kernel_rfl) (by kernel_rfl) (by kernel_rfl) fun C => ?_, h⟩
    rw [e84]
    refine br_not (fun h1 => ?_) (fun h1 => br_intro (fun h2 => ?_) (fun h2 => br_t hp.1 (br_intro (fun h3 => ?_) (fun h3 => br_t hp.2 (br_intro (fun h4 => ?_) (fun h4 => br_dec (fun h5 => br_t ?_ ?_) (fun h5 => ?_)))))))
    · show _ = _
      simp [dkOk]
      simp at h1
      intro h6 h7
      omega
    · show _ = _
      have : ¬ b.length = a.length := fun e => by rw [e] at h2; simp at h2
      simp [dkOk, this]
    · show _ = _
      simp [dkOk, h3]
    · show _ = _
      simp [dkOk, h4]
    · rw [hp.1, hc]
      rfl
    · show _ = _
      have e1 : b.length = a.length := by simp at h2; omega
      simp at h1
      have e2 : 1 ≤ a.length := by omega
      have e3 : a.length ≤ 120 := by omega
      have e4 : c.length ≤ 600 := by omega
      simp [dkOk, h3, h4, e1, e2, e3, e4]
    · show _ = _
      have e4 : ¬ c.length ≤ 600 := by omega
      simp [dkOk, e4]
  · exact h.elim
end Go.Proofs.YtkjnijddbiconaaGreatDoor.Ev
