/- The law of CoreBook. -/
import Derived.Test.YtkjnijddbiconaaGreatDoorK8
namespace Go.Proofs.YtkjnijddbiconaaGreatDoor.Ev
open Go
set_option linter.unusedVariables false
set_option linter.unusedSimpArgs false
set_option maxRecDepth 100000
set_option maxHeartbeats 1000000
noncomputable def E7 : Env := Eg.of Tryz.f7
noncomputable def G7 : Gk := gk [(26, g26), (11, g11), (28, g28), (13, g13), (27, g27), (29, g27), (30, g30), (31, g31), (16, g16), (32, g32), (17, g17), (33, g33), (34, g34)]
noncomputable def lp7 (n : Nat) : Code := (loopOf n (codeOf Tryz.f7)).getD .skip
noncomputable def ct7 (L : Lp) (R : Option Res → Prop) (n : Nat) : Kt := contOf E7 G7 L n (codeOf Tryz.f7) (endK E7 Tryz.f7.results.toList R)
noncomputable def rk7 (L : Lp) (R : Option Res → Prop) (n : Nat) (N : St → Prop) : Kt := rk (jof E7 (lp7 n)) N (ct7 L R n)
noncomputable def rkn7 (L : Lp) (R : Option Res → Prop) (n : Nat) (N : St → Prop) (m : Nat) (N2 : St → Prop) : Kt := rk (jof E7 (lp7 m)) N2 (contOf E7 G7 L m (lp7 n) (rk7 L R n N))
noncomputable def LOOPN7 (L : Lp) (R : Option Res → Prop) (n : Nat) (N : St → Prop) (m : Nat) (st : St) : Prop := L (lp7 m) st (contOf E7 G7 L m (lp7 n) (rk7 L R n N))
noncomputable def LOOP7 (L : Lp) (R : Option Res → Prop) (n : Nat) (st : St) : Prop := L (lp7 n) st (ct7 L R n)
theorem hg7 : HG Tryz.prog G7 := (hg_cons h26 (hg_cons h11 (hg_cons h28 (hg_cons h13 (hg_cons h27 (hg_cons h29 (hg_cons h30 (hg_cons h31 (hg_cons h16 (hg_cons h32 (hg_cons h17 (hg_cons h33 (hg_cons h34 hg_nil)))))))))))))
theorem okf7 : Ok Tryz.prog E7 := okg.of Tryz.f7
theorem e7 (L : Lp) (R : Option Res → Prop) (da db : List (Elem ks)) (dc : List (Elem kl)) (x : Int) (s : List (Elem kc)) (d p : List (Elem k3)) (b : Bool) (f : List (Elem ki)) (n : Int) : (bodyP Eg G7 L Tryz.f7 [.agg [.rsl ks da, .rsl ks db, .rsl kl dc], coreAV x s d p b f n] [] R) = (
    br (inD da db dc && true) (br (decide (szR 1048576 (szD da db dc) < 0)) (R (some { av := vB true, obs := [], outs := [] })) (br (inCo (x, s, d, p, b, f, n) && inL (szR 1048576 (szD da db dc))) (br (decide (szR (szR 1048576 (szD da db dc)) (szCo (x, s, d, p, b, f, n)) < 0)) (R (some { av := vB true, obs := [], outs := [] })) (br (smD da db dc) (br (smCo (x, s, d, p, b, f, n)) (br (smD da db dc && smB' (x, s, d, p, b, f, n)) (br (smD da db dc) (br (smCo (x, s, d, p, b, f, n)) (br (smD da db dc && smB' (x, s, d, p, b, f, n)) (br (decide ((cbS da db dc (x, s, d, p, b, f, n)).length ≤ 1048576)) (br (!eqR kb (cbS da db dc (x, s, d, p, b, f, n)) (cbS da db dc (x, s, d, p, b, f, n))) (R (some { av := vB false, obs := [], outs := [] })) (br (!cbOk da db dc (x, s, d, p, b, f, n) == cbOk da db dc (x, s, d, p, b, f, n)) (R (some { av := vB false, obs := [], outs := [] })) (br (smD da db dc) (br (smD da db dc) (br (!eqD da db dc da db dc) (R (some { av := vB false, obs := [], outs := [] })) (br (smCo (x, s, d, p, b, f, n)) (br (smCo (x, s, d, p, b, f, n)) (br (!eqCo (x, s, d, p, b, f, n) (x, s, d, p, b, f, n)) (R (some { av := vB false, obs := [], outs := [] })) (br (inMD 1 da db dc) (br (inC4 (nxC (nxA (nxA 1 da) db) dc) (x, s, d, p, b, f, n).snd.fst.length (x, s, d, p, b, f, n).snd.snd.fst.length (x, s, d, p, b, f, n).snd.snd.snd.fst.length (x, s, d, p, b, f, n).snd.snd.snd.snd.snd.fst.length) (br (decide ((cbS da db dc (x, s, d, p, b, f, n)).length ≤ 1048576)) (br (!eqR kb (cbS da db dc (x, s, d, p, b, f, n)) (cbS da db dc (x, s, d, p, b, f, n))) (R (some { av := vB false, obs := [], outs := [] })) (br (!cbOk da db dc (x, s, d, p, b, f, n) == cbOk da db dc (x, s, d, p, b, f, n)) (R (some { av := vB false, obs := [], outs := [] })) (br (inM 1 (cbS da db dc (x, s, d, p, b, f, n)).length) (br (inM 1 (mkS mkB 11 1 (cbS da db dc (x, s, d, p, b, f, n)).length).length && hdB kb mkB 11 1 (mkS mkB 11 1 (cbS da db dc (x, s, d, p, b, f, n)).length)) (br (1 + (↑(11 * (mkS mkB 11 1 (cbS da db dc (x, s, d, p, b, f, n)).length).length) : Int) != 1 + (↑(11 * (cbS da db dc (x, s, d, p, b, f, n)).length) : Int)) (R (some { av := vB false, obs := [], outs := [] })) (br (smD da db dc) (br (smCo (x, s, d, p, b, f, n)) (br (smD da db dc && smB' (x, s, d, p, b, f, n)) (br (decide ((cbS da db dc (x, s, d, p, b, f, n)).length ≤ 1048576)) (br (!eqR kb (cbS da db dc (x, s, d, p, b, f, n)) (cbS da db dc (x, s, d, p, b, f, n))) (R (some { av := vB false, obs := [], outs := [] })) (br (!cbOk da db dc (x, s, d, p, b, f, n) == cbOk da db dc (x, s, d, p, b, f, n)) (R (some { av := vB false, obs := [], outs := [] })) (br (inM 1 (mkS mkB 11 1 (cbS da db dc (x, s, d, p, b, f, n)).length).length && hdB kb mkB 11 1 (mkS mkB 11 1 (cbS da db dc (x, s, d, p, b, f, n)).length)) (br (1 + (↑(11 * (mkS mkB 11 1 (cbS da db dc (x, s, d, p, b, f, n)).length).length) : Int) != 1 + (↑(11 * (cbS da db dc (x, s, d, p, b, f, n)).length) : Int)) (R (some { av := vB false, obs := [], outs := [] })) (R (some { av := vB true, obs := [], outs := [] }))) False))) False) False) False) False)) False) False))) False) False) False)) False) False)) False) False))) False) False) False) False) False) False) False)) False)) False) := by kernel_rfl
theorem inC4_ge {m : Int} {s d p f : Nat} (h0 : 0 ≤ m) (h1 : m ≤ 100000000) (hs : s ≤ 1048576) (hd : d ≤ 1048576) (hp : p ≤ 1048576) (hf : f ≤ 1048576) : inC4 m s d p f = true := by
  unfold inC4 inM
  simp only [Bool.and_eq_true, decide_eq_true_eq]
  omega
theorem inMD_of {a b : List (Elem ks)} {c : List (Elem kl)} (ha : a.length ≤ 1048576) (hb : b.length ≤ 1048576) (hc : c.length ≤ 1048576) : inMD 1 a b c = true := by
  unfold inMD inM nxA
  simp only [Bool.and_eq_true, decide_eq_true_eq]
  omega
theorem smD_l {a b : List (Elem ks)} {c : List (Elem kl)} (h : smD a b c = true) : a.length ≤ 1048576 ∧ b.length ≤ 1048576 ∧ c.length ≤ 1048576 := by
  unfold smD at h
  simp only [Bool.and_eq_true, decide_eq_true_eq] at h
  exact ⟨h.1.1, h.1.2, h.2⟩
theorem cbS_len (da db : List (Elem ks)) (dc : List (Elem kl)) {c : Co} (h : c.2.1.length ≤ 1048576) : (cbS da db dc c).length ≤ 1048576 := by
  cases hk : cbOk da db dc c with
  | false => rw [cbS_f da db dc hk]; exact Nat.zero_le _
  | true => rw [cbS_t da db dc hk, List.length_map]; exact h
theorem beq_self_b (b : Bool) : (b == b) = true := by simp
theorem bne_self_k (a : Int) : (a != a) = false := by simp
theorem c7 (da db : List (Elem ks)) (dc : List (Elem kl)) (x : Int) (s : List (Elem kc)) (d p : List (Elem k3)) (b : Bool) (f : List (Elem ki)) (n : Int) (hd : dOk da db dc) (h : coOk x s d p b f n) : Ctr Tryz.prog 7 [.agg [.rsl ks da, .rsl ks db, .rsl kl dc], coreAV x s d p b f n] [] ⟨.val (.bool true), [], []⟩ := by
  refine ctr_fn okg hg7 Tryz.func7 (by kernel_rfl) (by kernel_rfl) (by kernel_rfl) fun C => ?_
  rw [e7, inCo_of h, inD_of hd]
  refine br_t rfl (br_dec (fun _ => rfl) (fun h1 => ?_))
  have h1' := szR_ge0 h1
  have hsd : smD da db dc = true := smD_of (Int.le_refl _) h1
  rw [szR_pos h1']
  refine br_t (by rw [Bool.true_and]; exact decide_eq_true ⟨by omega, by omega⟩) (br_dec (fun _ => rfl) (fun h2 => ?_))
  have hs := smCo_of (l := 1048576 - (szD da db dc : Int)) (by omega) h2
  have hb := smB'_of (l := 1048576 - (szD da db dc : Int)) (by omega) h2
  have hsl := smCo_s hs
  have hdl := smCo_d hs
  have hpl := smCo_p hs
  have hfl := smCo_f hs
  obtain ⟨la, lb, lc⟩ := smD_l hsd
  have hcl := cbS_len da db dc (c := (x, s, d, p, b, f, n)) hsl
  have hi4 : inC4 (nxC (nxA (nxA 1 da) db) dc) s.length d.length p.length f.length = true := inC4_ge (by unfold nxC nxA; omega) (by unfold nxC nxA; omega) hsl hdl hpl hfl
  rw [hsd, hs, hb, eqCo_self, eqD_self, eqR_self, beq_self_b, mkS_len, hdB_mk, inM_of hcl, inMD_of la lb lc, bne_self_k]
  exact br_t rfl (br_t rfl (br_t rfl (br_t rfl (br_t rfl (br_t rfl (br_yes hcl (br_f rfl (br_f rfl (br_t rfl (br_t rfl (br_f rfl (br_t rfl (br_t rfl (br_f rfl (br_t rfl (br_t hi4 (br_yes hcl (br_f rfl (br_f rfl (br_t rfl (br_t rfl (br_f rfl (br_t rfl (br_t rfl (br_t rfl (br_yes hcl (br_f rfl (br_f rfl (br_t rfl (br_f rfl rfl))))))))))))))))))))))))))))))
end Go.Proofs.YtkjnijddbiconaaGreatDoor.Ev
