/- The place of an entry, by halves. -/
import Derived.Test.YtkjnijddbiconaaL1
namespace Go.Proofs.Ytkjnijddbiconaa.Ev
open Go
set_option linter.unusedVariables false
set_option linter.unusedSimpArgs false
set_option maxRecDepth 100000
def bsD (xs : List (Elem k3)) (t : Int) : Nat := bsf (fun i => decide (IntKind.i64.wrap ((at3 xs i).2.1 - t) < 0)) 0 xs.length
def bkD (xs : List (Elem k3)) (t : Int) : Bool := decide (bsD xs t < xs.length) && (IntKind.i64.wrap ((at3 xs (bsD xs t)).2.1 - t) == 0)
def g44 : G1
  | [.agg [.val (.int .i64 a), .val (.int .i64 b), .val (.int .i64 c)], .val (.int .i64 t)], [], k => k ⟨.val (.int .i64 (IntKind.i64.wrap (b - t))), [], []⟩
  | _, _, _ => False
def g43 : G1
  | [.rsl [.int .i64, .int .i64, .int .i64] xs, .val (.int .i64 t), .fn 44 []], [], k => br (decide (xs.length ≤ 1048576)) (k ⟨.tup [.val (.int .i64 (bsD xs t)), .val (.bool (bkD xs t))], [], []⟩) False
  | _, _, _ => False
def g33 : G1
  | [.rsl [.int .i64, .int .i64, .int .i64] xs, .val (.int .i64 t)], [], k => br (decide (xs.length ≤ 1048576)) (k ⟨.tup [.val (.int .i64 (bsD xs t)), .val (.bool (bkD xs t))], [], []⟩) False
  | _, _, _ => False
def dcI (xs : List (Elem k3)) (t : Int) : Int := match ddtOk xs && bkD xs t with
  | true => (at3 xs (bsD xs t)).2.2.1
  | false => 0
def g19 : G1
  | [.rsl [.int .i64, .int .i64, .int .i64] xs, .val (.int .i64 t)], [], k => br (decide (xs.length ≤ 1048576)) (k ⟨.val (.int .i64 (dcI xs t)), [], []⟩) False
  | _, _, _ => False
noncomputable def E44 : Env := Ef.of Try.f44
noncomputable def G44 : Gk := gk []
noncomputable def lp44 (n : Nat) : Code := (loopOf n (codeOf Try.f44)).getD .skip
noncomputable def ct44 (L : Lp) (R : Option Res → Prop) (n : Nat) : Kt := contOf E44 G44 L n (codeOf Try.f44) (endK E44 Try.f44.results.toList R)
noncomputable def rk44 (L : Lp) (R : Option Res → Prop) (n : Nat) (N : St → Prop) : Kt := rk (jof E44 (lp44 n)) N (ct44 L R n)
noncomputable def rkn44 (L : Lp) (R : Option Res → Prop) (n : Nat) (N : St → Prop) (m : Nat) (N2 : St → Prop) : Kt := rk (jof E44 (lp44 m)) N2 (contOf E44 G44 L m (lp44 n) (rk44 L R n N))
noncomputable def LOOPN44 (L : Lp) (R : Option Res → Prop) (n : Nat) (N : St → Prop) (m : Nat) (st : St) : Prop := L (lp44 m) st (contOf E44 G44 L m (lp44 n) (rk44 L R n N))
noncomputable def LOOP44 (L : Lp) (R : Option Res → Prop) (n : Nat) (st : St) : Prop := L (lp44 n) st (ct44 L R n)
theorem hg44 : HG Try.prog G44 := hg_nil
theorem okf44 : Ok Try.prog E44 := okf.of Try.f44
theorem e44 (L : Lp) (R : Option Res → Prop) (a b c t : Int) : (bodyP Ef G44 L Try.f44 [.agg [.val (.int .i64 a), .val (.int .i64 b), .val (.int .i64 c)], .val (.int .i64 t)] [] R) = (
    R (some { av := vI (IntKind.i64.wrap (b - t)), obs := [], outs := [] })) := by kernel_rfl
theorem h44 : G1Ok Try.prog 44 g44 := by
  intro args obs k h
  unfold g44 at h
  split at h
  · rename_i k a b c t
    refine ⟨_, ctr_fn okf hg44 Try.func44 (by kernel_rfl) (by kernel_rfl) (by kernel_rfl) fun C => ?_, h⟩
    rw [e44]
  · exact h.elim
noncomputable def E43 : Env := Ef.of Try.f43
noncomputable def G43 : Gk := gk [(44, g44)]
noncomputable def lp43 (n : Nat) : Code := (loopOf n (codeOf Try.f43)).getD .skip
noncomputable def ct43 (L : Lp) (R : Option Res → Prop) (n : Nat) : Kt := contOf E43 G43 L n (codeOf Try.f43) (endK E43 Try.f43.results.toList R)
noncomputable def rk43 (L : Lp) (R : Option Res → Prop) (n : Nat) (N : St → Prop) : Kt := rk (jof E43 (lp43 n)) N (ct43 L R n)
noncomputable def rkn43 (L : Lp) (R : Option Res → Prop) (n : Nat) (N : St → Prop) (m : Nat) (N2 : St → Prop) : Kt := rk (jof E43 (lp43 m)) N2 (contOf E43 G43 L m (lp43 n) (rk43 L R n N))
noncomputable def LOOPN43 (L : Lp) (R : Option Res → Prop) (n : Nat) (N : St → Prop) (m : Nat) (st : St) : Prop := L (lp43 m) st (contOf E43 G43 L m (lp43 n) (rk43 L R n N))
noncomputable def LOOP43 (L : Lp) (R : Option Res → Prop) (n : Nat) (st : St) : Prop := L (lp43 n) st (ct43 L R n)
theorem hg43 : HG Try.prog G43 := (hg_cons h44 hg_nil)
theorem okf43 : Ok Try.prog E43 := okf.of Try.f43
theorem e43 (L : Lp) (R : Option Res → Prop) (xs : List (Elem k3)) (t : Int) : (bodyP Ef G43 L Try.f43 [.rsl k3 xs, .val (.int .i64 t), .fn 44 []] [] R) = (
    LOOP43 L R 3 { tm := [AV.rsl k3 xs, vI t, AV.fn 44 [], vJ, vJ, vJ, vJ, vJ, vI (↑xs.length : Int), vI 0, vI (↑xs.length : Int), vJ, vJ, vJ, vJ, vJ, vJ, vJ, vJ, vJ, vJ, vJ, vJ, vJ, vJ, vJ, vJ, vJ, vJ, vJ, vJ, vJ, vJ, vJ, vJ, vJ, vJ, vJ, vJ, vJ, vJ, vJ, vJ, vJ, vJ, vJ, vJ, vJ, vJ], ob := [], nx := 1000000, ps := [] }) := by kernel_rfl
def st43 (xs : List (Elem k3)) (t i j : Int) : St :=  ⟨[AV.rsl k3 xs, vI t, AV.fn 44 [], vJ, vJ, vJ, vJ, vJ, vI (↑xs.length : Int), .val (.int .i64 i), .val (.int .i64 j), vJ, vJ, vJ, vJ, vJ, vJ, vJ, vJ, vJ, vJ, vJ, vJ, vJ, vJ, vJ, vJ, vJ, vJ, vJ, vJ, vJ, vJ, vJ, vJ, vJ, vJ, vJ, vJ, vJ, vJ, vJ, vJ, vJ, vJ, vJ, vJ, vJ, vJ], [], 1000000, []⟩
theorem b43 (L : Lp) (R : Option Res → Prop) (N : St → Prop) (xs : List (Elem k3)) (t i j : Int) : (evP E43 G43 L (lp43 3) (st43 xs t i j) (rk43 L R 3 N)) = (
    br (decide (i < j)) (br (decide (0 ≤ IntKind.i64.wrap ((IntKind.u64.wrap (IntKind.i64.wrap (i + j))).fdiv 2) ∧ IntKind.i64.wrap ((IntKind.u64.wrap (IntKind.i64.wrap (i + j))).fdiv 2) < (↑xs.length : Int))) (br (decide (IntKind.i64.wrap ((xs.getD (IntKind.i64.wrap ((IntKind.u64.wrap (IntKind.i64.wrap (i + j))).fdiv 2)).toNat (edflt k3)).snd.fst - t) < 0)) (N { tm := [AV.rsl k3 xs, vI t, AV.fn 44 [], vJ, vJ, vJ, vJ, vJ, vI (↑xs.length : Int), vI (IntKind.i64.wrap (IntKind.i64.wrap ((IntKind.u64.wrap (IntKind.i64.wrap (i + j))).fdiv 2) + 1)), vI j, vJ, vJ, vJ, vJ, vJ, vJ, vJ, vJ, vJ, vJ, vJ, vJ, vJ, vJ, vJ, vJ, vJ, vJ, vJ, vJ, vJ, vJ, vJ, vJ, vJ, vJ, vJ, vJ, vJ, vJ, vJ, vJ, vJ, vJ, vJ, vJ, vJ, vJ], ob := [], nx := 1000000, ps := [] }) (N { tm := [AV.rsl k3 xs, vI t, AV.fn 44 [], vJ, vJ, vJ, vJ, vJ, vI (↑xs.length : Int), vI i, vI (IntKind.i64.wrap ((IntKind.u64.wrap (IntKind.i64.wrap (i + j))).fdiv 2)), vJ, vJ, vJ, vJ, vJ, vJ, vJ, vJ, vJ, vJ, vJ, vJ, vJ, vJ, vJ, vJ, vJ, vJ, vJ, vJ, vJ, vJ, vJ, vJ, vJ, vJ, vJ, vJ, vJ, vJ, vJ, vJ, vJ, vJ, vJ, vJ, vJ, vJ], ob := [], nx := 1000000, ps := [] })) False) (br (decide (i < (↑xs.length : Int))) (br (decide (0 ≤ i ∧ i < (↑xs.length : Int))) (R (some { av := AV.tup [vI i, vB (IntKind.i64.wrap ((xs.getD i.toNat (edflt k3)).snd.fst - t) == 0)], obs := [], outs := [] })) False) (R (some { av := AV.tup [vI i, vB false], obs := [], outs := [] })))) := by kernel_rfl
theorem h43 : G1Ok Try.prog 43 g43 := by
  intro args obs k h
  unfold g43 at h
  split at h
  · rename_i k xs t
    obtain ⟨hl, h⟩ := brd h
    refine ⟨_, ctr_fn okf hg43 Try.func43 (by kernel_rfl) (by kernel_rfl) (by kernel_rfl) fun C => ?_, h⟩
    rw [e43]
    refine loopBs okf43 hg43 (fun i j => st43 xs t i j) xs.length (fun i => decide (IntKind.i64.wrap ((at3 xs i).2.1 - t) < 0)) (by omega) (fun N i j hij hj hm hw yes no done => ?_) _ rfl
    show evP E43 G43 _ (lp43 3) (st43 xs t i j) (rk43 _ _ 3 _)
    rw [b43, hm]
    refine br_dec (fun h2 => ?_) (fun h2 => ?_)
    · rw [hw (by omega), Int.toNat_natCast]
      exact br_yes ⟨by omega, by omega⟩ (br_intro (fun h3 => yes (by omega) h3) (fun h3 => no (by omega) h3))
    · have e : bsD xs t = i := done (by omega)
      refine br_dec (fun h3 => br_yes ⟨by omega, h3⟩ ?_) (fun h3 => ?_)
      · show _ = _
        unfold bkD
        rw [e, decide_eq_true (show i < xs.length by omega), Bool.true_and, Int.toNat_natCast]
        rfl
      · show _ = _
        unfold bkD
        rw [e, decide_eq_false (show ¬ i < xs.length by omega), Bool.false_and]
  · exact h.elim
noncomputable def E33 : Env := Ef.of Try.f33
noncomputable def G33 : Gk := gk [(43, g43)]
noncomputable def lp33 (n : Nat) : Code := (loopOf n (codeOf Try.f33)).getD .skip
noncomputable def ct33 (L : Lp) (R : Option Res → Prop) (n : Nat) : Kt := contOf E33 G33 L n (codeOf Try.f33) (endK E33 Try.f33.results.toList R)
noncomputable def rk33 (L : Lp) (R : Option Res → Prop) (n : Nat) (N : St → Prop) : Kt := rk (jof E33 (lp33 n)) N (ct33 L R n)
noncomputable def rkn33 (L : Lp) (R : Option Res → Prop) (n : Nat) (N : St → Prop) (m : Nat) (N2 : St → Prop) : Kt := rk (jof E33 (lp33 m)) N2 (contOf E33 G33 L m (lp33 n) (rk33 L R n N))
noncomputable def LOOPN33 (L : Lp) (R : Option Res → Prop) (n : Nat) (N : St → Prop) (m : Nat) (st : St) : Prop := L (lp33 m) st (contOf E33 G33 L m (lp33 n) (rk33 L R n N))
noncomputable def LOOP33 (L : Lp) (R : Option Res → Prop) (n : Nat) (st : St) : Prop := L (lp33 n) st (ct33 L R n)
theorem hg33 : HG Try.prog G33 := (hg_cons h43 hg_nil)
theorem okf33 : Ok Try.prog E33 := okf.of Try.f33
theorem e33 (L : Lp) (R : Option Res → Prop) (xs : List (Elem k3)) (t : Int) : (bodyP Ef G33 L Try.f33 [.rsl k3 xs, .val (.int .i64 t)] [] R) = (
    br (decide (xs.length ≤ 1048576)) (R (some { av := AV.tup [vI (↑(bsD xs t) : Int), vB (bkD xs t)], obs := [], outs := [] })) False) := by kernel_rfl
theorem h33 : G1Ok Try.prog 33 g33 := by
  intro args obs k h
  unfold g33 at h
  split at h
  · rename_i k xs t
    obtain ⟨hl, h⟩ := br_and h
    refine ⟨_, ctr_fn okf hg33 Try.func33 (by kernel_rfl) (by kernel_rfl) (by kernel_rfl) fun C => ?_, h⟩
    rw [e33]
    exact br_t hl rfl
  · exact h.elim
theorem bkD_lt {d : List (Elem k3)} {t : Int} (h : bkD d t = true) : bsD d t < d.length := by
  unfold bkD at h
  rw [Bool.and_eq_true, decide_eq_true_eq] at h
  exact h.1
noncomputable def E19 : Env := Ef.of Try.f19
noncomputable def G19 : Gk := gk [(17, g17), (33, g33)]
noncomputable def lp19 (n : Nat) : Code := (loopOf n (codeOf Try.f19)).getD .skip
noncomputable def ct19 (L : Lp) (R : Option Res → Prop) (n : Nat) : Kt := contOf E19 G19 L n (codeOf Try.f19) (endK E19 Try.f19.results.toList R)
noncomputable def rk19 (L : Lp) (R : Option Res → Prop) (n : Nat) (N : St → Prop) : Kt := rk (jof E19 (lp19 n)) N (ct19 L R n)
noncomputable def rkn19 (L : Lp) (R : Option Res → Prop) (n : Nat) (N : St → Prop) (m : Nat) (N2 : St → Prop) : Kt := rk (jof E19 (lp19 m)) N2 (contOf E19 G19 L m (lp19 n) (rk19 L R n N))
noncomputable def LOOPN19 (L : Lp) (R : Option Res → Prop) (n : Nat) (N : St → Prop) (m : Nat) (st : St) : Prop := L (lp19 m) st (contOf E19 G19 L m (lp19 n) (rk19 L R n N))
noncomputable def LOOP19 (L : Lp) (R : Option Res → Prop) (n : Nat) (st : St) : Prop := L (lp19 n) st (ct19 L R n)
theorem hg19 : HG Try.prog G19 := (hg_cons h17 (hg_cons h33 hg_nil))
theorem okf19 : Ok Try.prog E19 := okf.of Try.f19
theorem e19 (L : Lp) (R : Option Res → Prop) (xs : List (Elem k3)) (t : Int) : (bodyP Ef G19 L Try.f19 [.rsl k3 xs, .val (.int .i64 t)] [] R) = (
    br (decide (xs.length ≤ 1048576)) (br (!ddtOk xs) (R (some { av := vI 0, obs := [], outs := [] })) (br (decide (xs.length ≤ 1048576)) (br (!bkD xs t) (R (some { av := vI 0, obs := [], outs := [] })) (br (decide (0 ≤ (↑(bsD xs t) : Int) ∧ (↑(bsD xs t) : Int) < (↑xs.length : Int))) (R (some { av := vI (xs.getD (↑(bsD xs t) : Int).toNat (edflt k3)).snd.snd.fst, obs := [], outs := [] })) False)) False)) False) := by kernel_rfl
theorem h19 : G1Ok Try.prog 19 g19 := by
  intro args obs k h
  unfold g19 at h
  split at h
  · rename_i k xs t
    obtain ⟨hl, h⟩ := br_and h
    refine ⟨_, ctr_fn okf hg19 Try.func19 (by kernel_rfl) (by kernel_rfl) (by kernel_rfl) fun C => ?_, h⟩
    rw [e19]
    unfold dcI
    refine br_t hl (br_not (fun h1 => ?_) (fun h1 => br_t hl (br_not (fun h2 => ?_) (fun h2 => br_yes ?_ ?_))))
    · rw [h1]
      rfl
    · rw [h1, h2]
      rfl
    · have := bkD_lt h2
      omega
    · rw [h1, h2]
      rfl
  · exact h.elim
/-- The place of the i-th entry. -/
def adD (d : List (Elem k3)) (i : Nat) : Int := (at3 d i).2.1
theorem ddt_at {d : List (Elem k3)} (h : ddtOk d = true) {k : Nat} (hk : k < d.length) : okAt d k = true := by
  simp only [ddtOk, Bool.and_eq_true, List.all_eq_true] at h
  exact h.2 k (by simp; exact hk)
theorem ddt_ent {d : List (Elem k3)} (h : ddtOk d = true) {k : Nat} (hk : k < d.length) : 1 ≤ adD d k ∧ adD d k ≤ 119 ∧ 1 ≤ (at3 d k).2.2.1 ∧ (at3 d k).2.2.1 ≤ 1000 ∧ 0 ≤ (at3 d k).1 ∧ (at3 d k).1 ≤ 65520 := by
  have := ddt_at h hk
  simp only [okAt, entryOk, within, Bool.and_eq_true, decide_eq_true_eq] at this
  exact ⟨this.1.1.2.1, this.1.1.2.2, this.1.2.1, this.1.2.2, this.1.1.1.1, this.1.1.1.2⟩
theorem ddt_step {d : List (Elem k3)} (h : ddtOk d = true) {k : Nat} (hk : k + 1 < d.length) : adD d k < adD d (k + 1) := by
  have := ddt_at h hk
  simp [okAt] at this
  exact this.2
theorem ddt_mono {d : List (Elem k3)} (h : ddtOk d = true) : ∀ (j i : Nat), i < j → j < d.length → adD d i < adD d j
  | 0, i, hi, _ => absurd hi (by omega)
  | j + 1, i, hi, hj => by
    have h2 := ddt_step h hj
    by_cases e : i = j
    · rw [e]; exact h2
    · have := ddt_mono h j i (by omega) (by omega)
      omega
theorem bs_lnD {d : List (Elem k3)} (h : ddtOk d = true) {t : Int} (h0 : 0 ≤ t) (h1 : t ≤ 1000000) : bsD d t = lnD d t := by
  have hc : ∀ i, i < d.length → decide (IntKind.i64.wrap ((at3 d i).2.1 - t) < 0) = decide ((at3 d i).2.1 < t) := by
    intro i hi
    have he := ddt_ent h hi
    have hw : IntKind.i64.wrap (adD d i - t) = adD d i - t := wrap_id (by omega) (by omega)
    show decide (IntKind.i64.wrap (adD d i - t) < 0) = decide (adD d i < t)
    rw [hw]
    apply decide_eq_decide.2
    omega
  unfold bsD lnD
  rw [bsf_ln fun a b hab hb hp => ?_]
  · exact ln_congr hc
  · rw [hc b hb] at hp
    rw [hc a (by omega)]
    by_cases e : a = b
    · subst e; exact hp
    · have := ddt_mono h b a (by omega) hb
      have hp : adD d b < t := of_decide_eq_true hp
      exact decide_eq_true (show adD d a < t by omega)
theorem bk_okD {d : List (Elem k3)} (h : ddtOk d = true) {t : Int} (h0 : 0 ≤ t) (h1 : t ≤ 1000000) : bkD d t = okD d t := by
  unfold bkD okD
  rw [bs_lnD h h0 h1]
  by_cases hk : lnD d t < d.length
  · have he := ddt_ent h hk
    have hw : IntKind.i64.wrap (adD d (lnD d t) - t) = adD d (lnD d t) - t := wrap_id (by omega) (by omega)
    show (decide (lnD d t < d.length) && (IntKind.i64.wrap (adD d (lnD d t) - t) == 0)) = (decide (lnD d t < d.length) && (adD d (lnD d t) == t))
    rw [hw, Bool.eq_iff_iff]
    simp only [Bool.and_eq_true, beq_iff_eq, decide_eq_true_eq]
    omega
  · rw [decide_eq_false hk]
    rfl
/-- At whatever number both ways of looking find the same. -/
theorem bk_all {d : List (Elem k3)} (h : ddtOk d = true) {t : Int} (h0 : -9223372036854775808 ≤ t) (h1 : t ≤ 9223372036854775807) : bkD d t = okD d t ∧ (okD d t = true → bsD d t = lnD d t) := by
  by_cases hr : 0 ≤ t ∧ t ≤ 1000000
  · exact ⟨bk_okD h hr.1 hr.2, fun _ => bs_lnD h hr.1 hr.2⟩
  · have f1 : okD d t = false := by
      cases hk : okD d t with
      | false => rfl
      | true =>
        have hl := okD_lt hk
        have he := ddt_ent h hl
        unfold okD at hk
        rw [Bool.and_eq_true] at hk
        have : adD d (lnD d t) = t := eq_of_beq hk.2
        omega
    have f2 : bkD d t = false := by
      cases hk : bkD d t with
      | false => rfl
      | true =>
        have hl := bkD_lt hk
        have he := ddt_ent h hl
        unfold bkD at hk
        rw [Bool.and_eq_true] at hk
        have : IntKind.i64.wrap (adD d (bsD d t) - t) = 0 := eq_of_beq hk.2
        rw [IntKind.wrap_i64] at this
        omega
    exact ⟨by rw [f1, f2], fun h => by rw [f1] at h; cases h⟩
end Go.Proofs.Ytkjnijddbiconaa.Ev
