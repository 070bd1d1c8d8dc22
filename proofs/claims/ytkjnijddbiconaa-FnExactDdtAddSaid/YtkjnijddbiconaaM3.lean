/- The laws of DdtDrop and DdtAdd. -/
import Derived.Test.YtkjnijddbiconaaM1
import Derived.Test.YtkjnijddbiconaaM2
namespace Go.Proofs.Ytkjnijddbiconaa.Ev
open Go
set_option linter.unusedVariables false
set_option linter.unusedSimpArgs false
set_option maxRecDepth 100000
theorem eq3_self (a : Elem k3) : eq3 a a = true := by simp [eq3]
theorem eqF_self (xs : List (Elem k3)) : eqF xs xs = true := by
  unfold eqF
  have : ((List.range xs.length).all fun i => eq3 (at3 xs i) (at3 xs i)) = true := by
    rw [List.all_eq_true]
    intro j _
    exact eq3_self _
  rw [this]
  simp
theorem bnot_self (q : Bool) : (!q == q) = false := by cases q <;> rfl
theorem wf_i64 {t : Int} (h : (Lit.int .i64 t).wf = true) : -9223372036854775808 ≤ t ∧ t ≤ 9223372036854775807 := by
  simpa [Lit.wf, IntKind.min, IntKind.max, IntKind.signed, IntKind.bits] using h
theorem dropK_len (xs : List (Elem k3)) (k : Nat) : (dropK xs k).length ≤ xs.length := by
  unfold dropK
  split
  · rw [List.length_append, List.length_take, List.length_drop]
    omega
  · rw [List.length_set]
    exact Nat.le_refl _
theorem ddR_len (xs : List (Elem k3)) (t : Int) : (ddR xs t).1.length ≤ xs.length := by
  unfold ddR
  split
  · exact Nat.zero_le _
  · split
    · exact Nat.le_refl _
    · exact dropK_len xs _
theorem daR_len (xs : List (Elem k3)) (s t : Int) : (daR xs s t).1.length ≤ xs.length + 1 := by
  have hk := lnD_le xs t
  unfold daR
  repeat' split
  all_goals simp
  omega
theorem daR_49 (xs : List (Elem k3)) (s t : Int) : (daR xs s t).1.length ≤ 49 := by
  cases hd : ddtOk xs with
  | false =>
    unfold daR
    rw [hd]
    exact Nat.zero_le _
  | true =>
    have h48 : xs.length ≤ 48 := by
      unfold ddtOk at hd
      rw [Bool.and_eq_true] at hd
      exact of_decide_eq_true hd.1
    have := daR_len xs s t
    omega
noncomputable def E3 : Env := Eg.of Try.f3
noncomputable def G3 : Gk := gk [(6, g6), (7, g7), (8, g8), (9, g9), (10, g10), (11, g11), (12, g12)]
noncomputable def lp3 (n : Nat) : Code := (loopOf n (codeOf Try.f3)).getD .skip
noncomputable def ct3 (L : Lp) (R : Option Res → Prop) (n : Nat) : Kt := contOf E3 G3 L n (codeOf Try.f3) (endK E3 Try.f3.results.toList R)
noncomputable def rk3 (L : Lp) (R : Option Res → Prop) (n : Nat) (N : St → Prop) : Kt := rk (jof E3 (lp3 n)) N (ct3 L R n)
noncomputable def rkn3 (L : Lp) (R : Option Res → Prop) (n : Nat) (N : St → Prop) (m : Nat) (N2 : St → Prop) : Kt := rk (jof E3 (lp3 m)) N2 (contOf E3 G3 L m (lp3 n) (rk3 L R n N))
noncomputable def LOOPN3 (L : Lp) (R : Option Res → Prop) (n : Nat) (N : St → Prop) (m : Nat) (st : St) : Prop := L (lp3 m) st (contOf E3 G3 L m (lp3 n) (rk3 L R n N))
noncomputable def LOOP3 (L : Lp) (R : Option Res → Prop) (n : Nat) (st : St) : Prop := L (lp3 n) st (ct3 L R n)
theorem hg3 : HG Try.prog G3 := (hg_cons h6 (hg_cons h7 (hg_cons h8 (hg_cons h9 (hg_cons h10 (hg_cons h11 (hg_cons h12 hg_nil)))))))
theorem okf3 : Ok Try.prog E3 := okg.of Try.f3
theorem e3 (L : Lp) (R : Option Res → Prop) (xs : List (Elem k3)) (t : Int) : (bodyP Eg G3 L Try.f3 [.rsl k3 xs, .val (.int .i64 t)] [] R) = (
    br (decide (IntKind.i64.wrap (1048576 - (↑xs.length : Int)) < 0)) (R (some { av := vB true, obs := [], outs := [] })) (br (decide (IntKind.i64.wrap (1048576 - (↑xs.length : Int)) < 0)) (R (some { av := vB true, obs := [], outs := [] })) (br (decide (xs.length ≤ 1048576)) (br (decide (xs.length ≤ 1048576)) (br (decide (xs.length ≤ 1048576)) (br (decide (xs.length ≤ 1048576)) (br (decide ((ddJ xs t).fst.length ≤ 1048576)) (br (!eqF (ddJ xs t).fst (ddR xs t).fst) (R (some { av := vB false, obs := [], outs := [] })) (br (!(ddJ xs t).snd == (ddR xs t).snd) (R (some { av := vB false, obs := [], outs := [] })) (br (decide (xs.length ≤ 1048576)) (br (decide (xs.length ≤ 1048576)) (br (!eqF xs xs) (R (some { av := vB false, obs := [], outs := [] })) (br (inM 1 xs.length) (br (decide ((ddJ xs t).fst.length ≤ 1048576)) (br (!eqF (ddJ xs t).fst (ddR xs t).fst) (R (some { av := vB false, obs := [], outs := [] })) (br (!(ddJ xs t).snd == (ddR xs t).snd) (R (some { av := vB false, obs := [], outs := [] })) (br (inM 1 (ddJ xs t).fst.length) (br (inM 1 (mkS mk3 3 1 (ddJ xs t).fst.length).length) (br (decide (hdR (hdB k3 mk3 3 1 (mkS mk3 3 1 (ddJ xs t).fst.length)) (1 + (↑(3 * (mkS mk3 3 1 (ddJ xs t).fst.length).length) : Int)) < 0)) (R (some { av := vB false, obs := [], outs := [] })) (br (hdR (hdB k3 mk3 3 1 (mkS mk3 3 1 (ddJ xs t).fst.length)) (1 + (↑(3 * (mkS mk3 3 1 (ddJ xs t).fst.length).length) : Int)) != 1 + (↑(3 * (ddJ xs t).fst.length) : Int)) (R (some { av := vB false, obs := [], outs := [] })) (br (decide (xs.length ≤ 1048576)) (br (decide (xs.length ≤ 1048576)) (br (decide ((ddJ xs t).fst.length ≤ 1048576)) (br (!eqF (ddJ xs t).fst (ddR xs t).fst) (R (some { av := vB false, obs := [], outs := [] })) (br (!(ddJ xs t).snd == (ddR xs t).snd) (R (some { av := vB false, obs := [], outs := [] })) (br (inM 1 (mkS mk3 3 1 (ddJ xs t).fst.length).length) (br (decide (hdR (hdB k3 mk3 3 1 (mkS mk3 3 1 (ddJ xs t).fst.length)) (1 + (↑(3 * (mkS mk3 3 1 (ddJ xs t).fst.length).length) : Int)) < 0)) (R (some { av := vB false, obs := [], outs := [] })) (br (hdR (hdB k3 mk3 3 1 (mkS mk3 3 1 (ddJ xs t).fst.length)) (1 + (↑(3 * (mkS mk3 3 1 (ddJ xs t).fst.length).length) : Int)) != 1 + (↑(3 * (ddJ xs t).fst.length) : Int)) (R (some { av := vB false, obs := [], outs := [] })) (R (some { av := vB true, obs := [], outs := [] })))) False))) False) False) False))) False) False))) False) False)) False) False))) False) False) False) False) False))) := by kernel_rfl
noncomputable def E4 : Env := Eg.of Try.f4
noncomputable def G4 : Gk := gk [(6, g6), (13, g13), (8, g8), (14, g14), (10, g10), (11, g11), (12, g12)]
noncomputable def lp4 (n : Nat) : Code := (loopOf n (codeOf Try.f4)).getD .skip
noncomputable def ct4 (L : Lp) (R : Option Res → Prop) (n : Nat) : Kt := contOf E4 G4 L n (codeOf Try.f4) (endK E4 Try.f4.results.toList R)
noncomputable def rk4 (L : Lp) (R : Option Res → Prop) (n : Nat) (N : St → Prop) : Kt := rk (jof E4 (lp4 n)) N (ct4 L R n)
noncomputable def rkn4 (L : Lp) (R : Option Res → Prop) (n : Nat) (N : St → Prop) (m : Nat) (N2 : St → Prop) : Kt := rk (jof E4 (lp4 m)) N2 (contOf E4 G4 L m (lp4 n) (rk4 L R n N))
noncomputable def LOOPN4 (L : Lp) (R : Option Res → Prop) (n : Nat) (N : St → Prop) (m : Nat) (st : St) : Prop := L (lp4 m) st (contOf E4 G4 L m (lp4 n) (rk4 L R n N))
noncomputable def LOOP4 (L : Lp) (R : Option Res → Prop) (n : Nat) (st : St) : Prop := L (lp4 n) st (ct4 L R n)
theorem hg4 : HG Try.prog G4 := (hg_cons h6 (hg_cons h13 (hg_cons h8 (hg_cons h14 (hg_cons h10 (hg_cons h11 (hg_cons h12 hg_nil)))))))
theorem okf4 : Ok Try.prog E4 := okg.of Try.f4
theorem e4 (L : Lp) (R : Option Res → Prop) (xs : List (Elem k3)) (s t : Int) : (bodyP Eg G4 L Try.f4 [.rsl k3 xs, .val (.int .i64 s), .val (.int .i64 t)] [] R) = (
    br (decide (IntKind.i64.wrap (1048576 - (↑xs.length : Int)) < 0)) (R (some { av := vB true, obs := [], outs := [] })) (br (decide (IntKind.i64.wrap (1048576 - (↑xs.length : Int)) < 0)) (R (some { av := vB true, obs := [], outs := [] })) (br (decide (xs.length ≤ 1048576)) (br (decide (xs.length ≤ 1048576)) (br (decide (xs.length ≤ 1048576)) (br (decide (xs.length ≤ 1048576)) (br (decide ((daJ xs s t).fst.length ≤ 1048576)) (br (!eqF (daJ xs s t).fst (daR xs s t).fst) (R (some { av := vB false, obs := [], outs := [] })) (br (!(daJ xs s t).snd == (daR xs s t).snd) (R (some { av := vB false, obs := [], outs := [] })) (br (decide (xs.length ≤ 1048576)) (br (decide (xs.length ≤ 1048576)) (br (!eqF xs xs) (R (some { av := vB false, obs := [], outs := [] })) (br (inM 1 xs.length) (br (decide ((daJ xs s t).fst.length ≤ 1048576)) (br (!eqF (daJ xs s t).fst (daR xs s t).fst) (R (some { av := vB false, obs := [], outs := [] })) (br (!(daJ xs s t).snd == (daR xs s t).snd) (R (some { av := vB false, obs := [], outs := [] })) (br (inM 1 (daJ xs s t).fst.length) (br (inM 1 (mkS mk3 3 1 (daJ xs s t).fst.length).length) (br (decide (hdR (hdB k3 mk3 3 1 (mkS mk3 3 1 (daJ xs s t).fst.length)) (1 + (↑(3 * (mkS mk3 3 1 (daJ xs s t).fst.length).length) : Int)) < 0)) (R (some { av := vB false, obs := [], outs := [] })) (br (hdR (hdB k3 mk3 3 1 (mkS mk3 3 1 (daJ xs s t).fst.length)) (1 + (↑(3 * (mkS mk3 3 1 (daJ xs s t).fst.length).length) : Int)) != 1 + (↑(3 * (daJ xs s t).fst.length) : Int)) (R (some { av := vB false, obs := [], outs := [] })) (br (decide (xs.length ≤ 1048576)) (br (decide (xs.length ≤ 1048576)) (br (decide ((daJ xs s t).fst.length ≤ 1048576)) (br (!eqF (daJ xs s t).fst (daR xs s t).fst) (R (some { av := vB false, obs := [], outs := [] })) (br (!(daJ xs s t).snd == (daR xs s t).snd) (R (some { av := vB false, obs := [], outs := [] })) (br (inM 1 (mkS mk3 3 1 (daJ xs s t).fst.length).length) (br (decide (hdR (hdB k3 mk3 3 1 (mkS mk3 3 1 (daJ xs s t).fst.length)) (1 + (↑(3 * (mkS mk3 3 1 (daJ xs s t).fst.length).length) : Int)) < 0)) (R (some { av := vB false, obs := [], outs := [] })) (br (hdR (hdB k3 mk3 3 1 (mkS mk3 3 1 (daJ xs s t).fst.length)) (1 + (↑(3 * (mkS mk3 3 1 (daJ xs s t).fst.length).length) : Int)) != 1 + (↑(3 * (daJ xs s t).fst.length) : Int)) (R (some { av := vB false, obs := [], outs := [] })) (R (some { av := vB true, obs := [], outs := [] })))) False))) False) False) False))) False) False))) False) False)) False) False))) False) False) False) False) False))) := by kernel_rfl
theorem c3 (xs : List (Elem k3)) (t : Int) (hm : xs.length ≤ maxLen) (ht : (Lit.int .i64 t).wf = true) : Ctr Try.prog 3 [.rsl k3 xs, .val (.int .i64 t)] [] ⟨.val (.bool true), [], []⟩ := by
  have hm' : xs.length ≤ 9223372036854775807 := hm
  obtain ⟨t0, t1⟩ := wf_i64 ht
  refine ctr_fn okg hg3 Try.func3 (by kernel_rfl) (by kernel_rfl) (by kernel_rfl) fun C => ?_
  have hl := ddR_len xs t
  rw [e3, ddJ_eq xs t0 t1, eqF_self, eqF_self, bnot_self, mkS_len, hdB_mk]
  generalize ddR xs t = d at *
  have hn : ¬ (hdR true (1 + ((3 * d.1.length : Nat) : Int)) < 0) := by
    show ¬ (1 + ((3 * d.1.length : Nat) : Int) < 0)
    omega
  have hb : (hdR true (1 + ((3 * d.1.length : Nat) : Int)) != 1 + ((3 * d.1.length : Nat) : Int)) = false := by
    show ((1 + ((3 * d.1.length : Nat) : Int)) != 1 + ((3 * d.1.length : Nat) : Int)) = false
    simp
  refine br_dec (fun _ => rfl) (fun h1 => br_dec (fun _ => rfl) (fun _ => ?_))
  rw [wrap_id (by omega) (by omega)] at h1
  have hx : xs.length ≤ 1048576 := by omega
  have hd : d.1.length ≤ 1048576 := by omega
  have hi := inM_of hx
  have hj := inM_of hd
  exact br_yes hx (br_yes hx (br_yes hx (br_yes hx (br_yes hd (br_f rfl (br_f rfl (br_yes hx (br_yes hx (br_f rfl (br_t hi (br_yes hd (br_f rfl (br_f rfl (br_t hj (br_t hj (br_no hn (br_f hb (br_yes hx (br_yes hx (br_yes hd (br_f rfl (br_f rfl (br_t hj (br_no hn (br_f hb rfl)))))))))))))))))))))))))
theorem c4 (xs : List (Elem k3)) (s t : Int) (hm : xs.length ≤ maxLen) : Ctr Try.prog 4 [.rsl k3 xs, .val (.int .i64 s), .val (.int .i64 t)] [] ⟨.val (.bool true), [], []⟩ := by
  have hm' : xs.length ≤ 9223372036854775807 := hm
  refine ctr_fn okg hg4 Try.func4 (by kernel_rfl) (by kernel_rfl) (by kernel_rfl) fun C => ?_
  have hl := daR_49 xs s t
  rw [e4, daJ_eq, eqF_self, eqF_self, bnot_self, mkS_len, hdB_mk]
  generalize daR xs s t = d at *
  have hn : ¬ (hdR true (1 + ((3 * d.1.length : Nat) : Int)) < 0) := by
    show ¬ (1 + ((3 * d.1.length : Nat) : Int) < 0)
    omega
  have hb : (hdR true (1 + ((3 * d.1.length : Nat) : Int)) != 1 + ((3 * d.1.length : Nat) : Int)) = false := by
    show ((1 + ((3 * d.1.length : Nat) : Int)) != 1 + ((3 * d.1.length : Nat) : Int)) = false
    simp
  refine br_dec (fun _ => rfl) (fun h1 => br_dec (fun _ => rfl) (fun _ => ?_))
  rw [wrap_id (by omega) (by omega)] at h1
  have hx : xs.length ≤ 1048576 := by omega
  have hd : d.1.length ≤ 1048576 := by omega
  have hi := inM_of hx
  have hj := inM_of hd
  exact br_yes hx (br_yes hx (br_yes hx (br_yes hx (br_yes hd (br_f rfl (br_f rfl (br_yes hx (br_yes hx (br_f rfl (br_t hi (br_yes hd (br_f rfl (br_f rfl (br_t hj (br_t hj (br_no hn (br_f hb (br_yes hx (br_yes hx (br_yes hd (br_f rfl (br_f rfl (br_t hj (br_no hn (br_f hb rfl)))))))))))))))))))))))))
end Go.Proofs.Ytkjnijddbiconaa.Ev
