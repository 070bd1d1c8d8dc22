/- The place of an entry, by halves. -/
import Derived.Test.YtkjnijddbiconaaGreatDoorL1
import Derived.Test.YtkjnijddbiconaaGreatDoorD6
namespace Go.Proofs.YtkjnijddbiconaaGreatDoor.Ev
open Go
set_option linter.unusedVariables false
set_option linter.unusedSimpArgs false
set_option maxRecDepth 100000
def bsD (xs : List (Elem k3)) (t : Int) : Nat := bsf (fun i => decide (IntKind.i64.wrap ((at3 xs i).2.1 - t) < 0)) 0 xs.length
def bkD (xs : List (Elem k3)) (t : Int) : Bool := decide (bsD xs t < xs.length) && (IntKind.i64.wrap ((at3 xs (bsD xs t)).2.1 - t) == 0)
def g144 : G1
  | [.agg [.val (.int .i64 a), .val (.int .i64 b), .val (.int .i64 c)], .val (.int .i64 t)], [], k => k ⟨.val (.int .i64 (IntKind.i64.wrap (b - t))), [], []⟩
  | _, _, _ => False
def g143 : G1
  | [.rsl [.int .i64, .int .i64, .int .i64] xs, .val (.int .i64 t), .fn 144 []], [], k => br (decide (xs.length ≤ 1048576)) (k ⟨.tup [.val (.int .i64 (bsD xs t)), .val (.bool (bkD xs t))], [], []⟩) False
  | _, _, _ => False
def g75 : G1
  | [.rsl [.int .i64, .int .i64, .int .i64] xs, .val (.int .i64 t)], [], k => br (decide (xs.length ≤ 1048576)) (k ⟨.tup [.val (.int .i64 (bsD xs t)), .val (.bool (bkD xs t))], [], []⟩) False
  | _, _, _ => False
def dcI (xs : List (Elem k3)) (t : Int) : Int := match ddtOk xs && bkD xs t with
  | true => (at3 xs (bsD xs t)).2.2.1
  | false => 0
def g40 : G1
  | [.rsl [.int .i64, .int .i64, .int .i64] xs, .val (.int .i64 t)], [], k => br (decide (xs.length ≤ 1048576)) (k ⟨.val (.int .i64 (dcI xs t)), [], []⟩) False
  | _, _, _ => False
noncomputable def G144 : Gk := gk []
theorem hg144 : HG Tryz.prog G144 := hg_nil
theorem e144 (L : Lp) (R : Option Res → Prop) (a b c t : Int) : (bodyP Ef G144 L Tryz.f144 [.agg [.val (.int .i64 a), .val (.int .i64 b), .val (.int .i64 c)], .val (.int .i64 t)] [] R) = (
    R (some { av := vI (IntKind.i64.wrap (b - t)), obs := [], outs := [] })) := by kernel_rfl
theorem h144 : G1Ok Tryz.prog 144 g144 := by
  intro args obs k h
  unfold g144 at h
  split at h
  · rename_i k a b c t
    refine ⟨_, ctr_fn okf hg144 Tryz.func144 (by kernel_rfl) (by kernel_rfl) (by kernel_rfl) fun C => ?_, h⟩
    rw [e144]
  · exact h.elim
noncomputable def E143 : Env := Ef.of Tryz.f143
noncomputable def G143 : Gk := gk [(144, g144)]
noncomputable def lp143 (n : Nat) : Code := (loopOf n (codeOf Tryz.f143)).getD .skip
noncomputable def ct143 (L : Lp) (R : Option Res → Prop) (n : Nat) : Kt := contOf E143 G143 L n (codeOf Tryz.f143) (endK E143 Tryz.f143.results.toList R)
noncomputable def rk143 (L : Lp) (R : Option Res → Prop) (n : Nat) (N : St → Prop) : Kt := rk (jof E143 (lp143 n)) N (ct143 L R n)
noncomputable def LOOP143 (L : Lp) (R : Option Res → Prop) (n : Nat) (st : St) : Prop := L (lp143 n) st (ct143 L R n)
theorem hg143 : HG Tryz.prog G143 := (hg_cons h144 hg_nil)
theorem okf143 : Ok Tryz.prog E143 := okf.of Tryz.f143
theorem e143 (L : Lp) (R : Option Res → Prop) (xs : List (Elem k3)) (t : Int) : (bodyP Ef G143 L Tryz.f143 [.rsl k3 xs, .val (.int .i64 t), .fn 144 []] [] R) = (
    LOOP143 L R 3 { tm := [AV.rsl k3 xs, vI t, AV.fn 144 [], vJ, vJ, vJ, vJ, vJ, vI (↑xs.length : Int), vI 0, vI (↑xs.length : Int), vJ, vJ, vJ, vJ, vJ, vJ, vJ, vJ, vJ, vJ, vJ, vJ, vJ, vJ, vJ, vJ, vJ, vJ, vJ, vJ, vJ, vJ, vJ, vJ, vJ, vJ, vJ, vJ, vJ, vJ, vJ, vJ, vJ, vJ, vJ, vJ, vJ, vJ], ob := [], nx := 1000000, ps := [] }) := by kernel_rfl
def st143 (xs : List (Elem k3)) (t i j : Int) : St :=  ⟨[AV.rsl k3 xs, vI t, AV.fn 144 [], vJ, vJ, vJ, vJ, vJ, vI (↑xs.length : Int), .val (.int .i64 i), .val (.int .i64 j), vJ, vJ, vJ, vJ, vJ, vJ, vJ, vJ, vJ, vJ, vJ, vJ, vJ, vJ, vJ, vJ, vJ, vJ, vJ, vJ, vJ, vJ, vJ, vJ, vJ, vJ, vJ, vJ, vJ, vJ, vJ, vJ, vJ, vJ, vJ, vJ, vJ, vJ], [], 1000000, []⟩
theorem b143 (L : Lp) (R : Option Res → Prop) (N : St → Prop) (xs : List (Elem k3)) (t i j : Int) : (evP E143 G143 L (lp143 3) (st143 xs t i j) (rk143 L R 3 N)) = (
    br (decide (i < j)) (br (decide (0 ≤ IntKind.i64.wrap ((IntKind.u64.wrap (IntKind.i64.wrap (i + j))).fdiv 2) ∧ IntKind.i64.wrap ((IntKind.u64.wrap (IntKind.i64.wrap (i + j))).fdiv 2) < (↑xs.length : Int))) (br (decide (IntKind.i64.wrap ((xs.getD (IntKind.i64.wrap ((IntKind.u64.wrap (IntKind.i64.wrap (i + j))).fdiv 2)).toNat (edflt k3)).snd.fst - t) < 0)) (N { tm := [AV.rsl k3 xs, vI t, AV.fn 144 [], vJ, vJ, vJ, vJ, vJ, vI (↑xs.length : Int), vI (IntKind.i64.wrap (IntKind.i64.wrap ((IntKind.u64.wrap (IntKind.i64.wrap (i + j))).fdiv 2) + 1)), vI j, vJ, vJ, vJ, vJ, vJ, vJ, vJ, vJ, vJ, vJ, vJ, vJ, vJ, vJ, vJ, vJ, vJ, vJ, vJ, vJ, vJ, vJ, vJ, vJ, vJ, vJ, vJ, vJ, vJ, vJ, vJ, vJ, vJ, vJ, vJ, vJ, vJ, vJ], ob := [], nx := 1000000, ps := [] }) (N { tm := [AV.rsl k3 xs, vI t, AV.fn 144 [], vJ, vJ, vJ, vJ, vJ, vI (↑xs.length : Int), vI i, vI (IntKind.i64.wrap ((IntKind.u64.wrap (IntKind.i64.wrap (i + j))).fdiv 2)), vJ, vJ, vJ, vJ, vJ, vJ, vJ, vJ, vJ, vJ, vJ, vJ, vJ, vJ, vJ, vJ, vJ, vJ, vJ, vJ, vJ, vJ, vJ, vJ, vJ, vJ, vJ, vJ, vJ, vJ, vJ, vJ, vJ, vJ, vJ, vJ, vJ, vJ], ob := [], nx := 1000000, ps := [] })) False) (br (decide (i < (↑xs.length : Int))) (br (decide (0 ≤ i ∧ i < (↑xs.length : Int))) (R (some { av := AV.tup [vI i, vB (IntKind.i64.wrap ((xs.getD i.toNat (edflt k3)).snd.fst - t) == 0)], obs := [], outs := [] })) False) (R (some { av := AV.tup [vI i, vB false], obs := [], outs := [] })))) := by kernel_rfl
theorem h143 : G1Ok Tryz.prog 143 g143 := by
  intro args obs k h
  unfold g143 at h
  split at h
  · rename_i k xs t
    obtain ⟨hl, h⟩ := brd h
    refine ⟨_, ctr_fn okf hg143 Tryz.func143 (by kernel_rfl) (by kernel_rfl) (by kernel_rfl) fun C => ?_, h⟩
    rw [e143]
    refine loopBs okf143 hg143 (fun i j => st143 xs t i j) xs.length (fun i => decide (IntKind.i64.wrap ((at3 xs i).2.1 - t) < 0)) (by omega) (fun N i j hij hj hm hw yes no done => ?_) _ rfl
    show evP E143 G143 _ (lp143 3) (st143 xs t i j) (rk143 _ _ 3 _)
    rw [b143, hm]
    refine br_dec (fun h2 => ?_) (fun h2 => ?_)
    · rw [hw (by omega), Int.toNat_natCast]
      exact br_yes ⟨by omega, by omega⟩ (br_intro (fun h3 => yes (by omega) h3) (fun h3 => no (by omega) h3))
    · have e : bsD xs t = i := done (by omega)
      refine br_dec (fun h3 => br_yes ⟨by omega, h3⟩ ?_) (fun h3 => ?_)
      · show _ = _
        unfold bkD
        rw [e, decide_eq_true (show i < xs.length by omega), Bool.true_and, Int.toNat_natCast]
        rfl
      · show _ = _
        unfold bkD
        rw [e, decide_eq_false (show ¬ i < xs.length by omega), Bool.false_and]
  · exact h.elim
noncomputable def G75 : Gk := gk [(143, g143)]
theorem hg75 : HG Tryz.prog G75 := (hg_cons h143 hg_nil)
theorem e75 (L : Lp) (R : Option Res → Prop) (xs : List (Elem k3)) (t : Int) : (bodyP Ef G75 L Tryz.f75 [.rsl k3 xs, .val (.int .i64 t)] [] R) = (
    br (decide (xs.length ≤ 1048576)) (R (some { av := AV.tup [vI (↑(bsD xs t) : Int), vB (bkD xs t)], obs := [], outs := [] })) False) := by kernel_rfl
theorem h75 : G1Ok Tryz.prog 75 g75 := by
  intro args obs k h
  unfold g75 at h
  split at h
  · rename_i k xs t
    obtain ⟨hl, h⟩ := br_and h
    refine ⟨_, ctr_fn okf hg75 Tryz.func75 (by kernel_rfl) (by kernel_rfl) (by kernel_rfl) fun C => ?_, h⟩
    rw [e75]
    exact br_t hl rfl
  · exact h.elim
theorem bkD_lt {d : List (Elem k3)} {t : Int} (h : bkD d t = true) : bsD d t < d.length := by
  unfold bkD at h
  rw [Bool.and_eq_true, decide_eq_true_eq] at h
  exact h.1
noncomputable def G40 : Gk := gk [(112, g112), (75, g75)]
theorem hg40 : HG Tryz.prog G40 := (hg_cons h112 (hg_cons h75 hg_nil))
theorem e40 (L : Lp) (R : Option Res → Prop) (xs : List (Elem k3)) (t : Int) : (bodyP Ef G40 L Tryz.f40 [.rsl k3 xs, .val (.int .i64 t)] [] R) = (
    br (decide (xs.length ≤ 1048576)) (br (!ddtOk xs) (R (some { av := vI 0, obs := [], outs := [] })) (br (decide (xs.length ≤ 1048576)) (br (!bkD xs t) (R (some { av := vI 0, obs := [], outs := [] })) (br (decide (0 ≤ (↑(bsD xs t) : Int) ∧ (↑(bsD xs t) : Int) < (↑xs.length : Int))) (R (some { av := vI (xs.getD (↑(bsD xs t) : Int).toNat (edflt k3)).snd.snd.fst, obs := [], outs := [] })) False)) False)) False) := by kernel_rfl
theorem h40 : G1Ok Tryz.prog 40 g40 := by
  intro args obs k h
  unfold g40 at h
  split at h
  · rename_i k xs t
    obtain ⟨hl, h⟩ := br_and h
    refine ⟨_, ctr_fn okf hg40 Tryz.func40 (by kernel_rfl) (by kernel_rfl) (by kernel_rfl) fun C => ?_, h⟩
    rw [e40]
    unfold dcI
    refine br_t hl (br_not (fun h1 => ?_) (fun h1 => br_t hl (br_not (fun h2 => ?_) (fun h2 => br_yes ?_ ?_))))
    · rw [h1]
      rfl
    · rw [h1, h2]
      rfl
    · have := bkD_lt h2
      omega
    · rw [h1, h2]
      rfl
  · exact h.elim
/-- The place of the i-th entry. -/
def adD (d : List (Elem k3)) (i : Nat) : Int := (at3 d i).2.1
theorem ddt_at {d : List (Elem k3)} (h : ddtOk d = true) {k : Nat} (hk : k < d.length) : okAt d k = true := by
  simp only [ddtOk, Bool.and_eq_true, List.all_eq_true] at h
  exact h.2 k (by simp; exact hk)
theorem ddt_ent {d : List (Elem k3)} (h : ddtOk d = true) {k : Nat} (hk : k < d.length) : 1 ≤ adD d k ∧ adD d k ≤ 119 ∧ 1 ≤ (at3 d k).2.2.1 ∧ (at3 d k).2.2.1 ≤ 1000 ∧ 0 ≤ (at3 d k).1 ∧ (at3 d k).1 ≤ 65520 := by
  have := ddt_at h hk
  simp only [okAt, entryOk, within, Bool.and_eq_true, decide_eq_true_eq] at this
  exact ⟨this.1.1.2.1, this.1.1.2.2, this.1.2.1, this.1.2.2, this.1.1.1.1, this.1.1.1.2⟩
theorem ddt_step {d : List (Elem k3)} (h : ddtOk d = true) {k : Nat} (hk : k + 1 < d.length) : adD d k < adD d (k + 1) := by
  have := ddt_at h hk
  simp [okAt] at this
  exact this.2
theorem ddt_mono {d : List (Elem k3)} (h : ddtOk d = true) : ∀ (j i : Nat), i < j → j < d.length → adD d i < adD d j
  | 0, i, hi, _ => absurd hi (by omega)
  | j + 1, i, hi, hj => by
    have h2 := ddt_step h hj
    by_cases e : i = j
    · rw [e]; exact h2
    · have := ddt_mono h j i (by omega) (by omega)
      omega
theorem bs_lnD {d : List (Elem k3)} (h : ddtOk d = true) {t : Int} (h0 : 0 ≤ t) (h1 : t ≤ 1000000) : bsD d t = lnD d t := by
  have hc : ∀ i, i < d.length → decide (IntKind.i64.wrap ((at3 d i).2.1 - t) < 0) = decide ((at3 d i).2.1 < t) := by
    intro i hi
    have he := ddt_ent h hi
    have hw : IntKind.i64.wrap (adD d i - t) = adD d i - t := wrap_id (by omega) (by omega)
    show decide (IntKind.i64.wrap (adD d i - t) < 0) = decide (adD d i < t)
    rw [hw]
    apply decide_eq_decide.2
    omega
  unfold bsD lnD
  rw [bsf_ln fun a b hab hb hp => ?_]
  · exact ln_congr hc
  · rw [hc b hb] at hp
    rw [hc a (by omega)]
    by_cases e : a = b
    · subst e; exact hp
    · have := ddt_mono h b a (by omega) hb
      have hp : adD d b < t := of_decide_eq_true hp
      exact decide_eq_true (show adD d a < t by omega)
theorem bk_okD {d : List (Elem k3)} (h : ddtOk d = true) {t : Int} (h0 : 0 ≤ t) (h1 : t ≤ 1000000) : bkD d t = okD d t := by
  unfold bkD okD
  rw [bs_lnD h h0 h1]
  by_cases hk : lnD d t < d.length
  · have he := ddt_ent h hk
    have hw : IntKind.i64.wrap (adD d (lnD d t) - t) = adD d (lnD d t) - t := wrap_id (by omega) (by omega)
    show (decide (lnD d t < d.length) && (IntKind.i64.wrap (adD d (lnD d t) - t) == 0)) = (decide (lnD d t < d.length) && (adD d (lnD d t) == t))
    rw [hw, Bool.eq_iff_iff]
    simp only [Bool.and_eq_true, beq_iff_eq, decide_eq_true_eq]
    omega
  · rw [decide_eq_false hk]
    rfl
end Go.Proofs.YtkjnijddbiconaaGreatDoor.Ev
