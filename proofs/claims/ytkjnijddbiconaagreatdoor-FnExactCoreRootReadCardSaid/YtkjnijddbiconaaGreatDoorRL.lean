/- The law of CoreRootRead. -/
import Derived.Test.YtkjnijddbiconaaGreatDoorRK
import Derived.Test.YtkjnijddbiconaaGreatDoorRI
namespace Go.Proofs.YtkjnijddbiconaaGreatDoor.Ev
open Go
set_option linter.unusedVariables false
set_option linter.unusedSimpArgs false
set_option maxRecDepth 100000
set_option maxHeartbeats 1000000
noncomputable def G8 : Gk := gk [(35, g35), (36, g35), (16, g16), (17, g17c), (37, g37)]
theorem hg8 : HG Tryz.prog G8 := (hg_cons h35 (hg_cons h36r (hg_cons h16 (hg_cons h17c (hg_cons h37 hg_nil)))))
theorem e8 (L : Lp) (R : Option Res → Prop) (t : ByteArray) : (bodyP Eg G8 L Tryz.f8 [.val (.string t)] [] R) = (
    br (decide ((↑t.size : Int) > 1048576)) (R (some { av := vB true, obs := [], outs := [] })) (br (decide (t.size ≤ 1048576)) (br (decide (t.size ≤ 1048576)) (br (smCo (0, rrS t, [], rrP t, false, [], 0)) (br (!eqCo (0, rrS t, [], rrP t, false, [], 0) (0, rrS t, [], rrP t, false, [], 0)) (R (some { av := vB false, obs := [], outs := [] })) (br (!rrK t == rrK t) (R (some { av := vB false, obs := [], outs := [] })) (br (inC4 1 (rrS t).length 0 (rrP t).length 0) (br (inC4 1 (0, midC (rrS t) 1 (rrS t).length 0, mkS mk3 3 (1 + (↑(7 * (rrS t).length) : Int)) 0, mkS mk3 3 (1 + (↑(7 * (rrS t).length) : Int) + 0) (rrP t).length, false, mkS mkI 1 (1 + (↑(7 * (rrS t).length) : Int) + 0 + (↑(3 * (rrP t).length) : Int)) 0, 0).snd.fst.length (0, midC (rrS t) 1 (rrS t).length 0, mkS mk3 3 (1 + (↑(7 * (rrS t).length) : Int)) 0, mkS mk3 3 (1 + (↑(7 * (rrS t).length) : Int) + 0) (rrP t).length, false, mkS mkI 1 (1 + (↑(7 * (rrS t).length) : Int) + 0 + (↑(3 * (rrP t).length) : Int)) 0, 0).snd.snd.fst.length (0, midC (rrS t) 1 (rrS t).length 0, mkS mk3 3 (1 + (↑(7 * (rrS t).length) : Int)) 0, mkS mk3 3 (1 + (↑(7 * (rrS t).length) : Int) + 0) (rrP t).length, false, mkS mkI 1 (1 + (↑(7 * (rrS t).length) : Int) + 0 + (↑(3 * (rrP t).length) : Int)) 0, 0).snd.snd.snd.fst.length (0, midC (rrS t) 1 (rrS t).length 0, mkS mk3 3 (1 + (↑(7 * (rrS t).length) : Int)) 0, mkS mk3 3 (1 + (↑(7 * (rrS t).length) : Int) + 0) (rrP t).length, false, mkS mkI 1 (1 + (↑(7 * (rrS t).length) : Int) + 0 + (↑(3 * (rrP t).length) : Int)) 0, 0).snd.snd.snd.snd.snd.fst.length && hdCo (0, midC (rrS t) 1 (rrS t).length 0, mkS mk3 3 (1 + (↑(7 * (rrS t).length) : Int)) 0, mkS mk3 3 (1 + (↑(7 * (rrS t).length) : Int) + 0) (rrP t).length, false, mkS mkI 1 (1 + (↑(7 * (rrS t).length) : Int) + 0 + (↑(3 * (rrP t).length) : Int)) 0, 0) 1) (br (mkCo (0, midC (rrS t) 1 (rrS t).length 0, mkS mk3 3 (1 + (↑(7 * (rrS t).length) : Int)) 0, mkS mk3 3 (1 + (↑(7 * (rrS t).length) : Int) + 0) (rrP t).length, false, mkS mkI 1 (1 + (↑(7 * (rrS t).length) : Int) + 0 + (↑(3 * (rrP t).length) : Int)) 0, 0) 1 != mkCo (0, rrS t, [], rrP t, false, [], 0) 1) (R (some { av := vB false, obs := [], outs := [] })) (br (decide (t.size ≤ 1048576)) (br (smCo (0, rrS t, [], rrP t, false, [], 0)) (br (!eqCo (0, rrS t, [], rrP t, false, [], 0) (0, rrS t, [], rrP t, false, [], 0)) (R (some { av := vB false, obs := [], outs := [] })) (br (!rrK t == rrK t) (R (some { av := vB false, obs := [], outs := [] })) (br (inC4 1 (0, midC (rrS t) 1 (rrS t).length 0, mkS mk3 3 (1 + (↑(7 * (rrS t).length) : Int)) 0, mkS mk3 3 (1 + (↑(7 * (rrS t).length) : Int) + 0) (rrP t).length, false, mkS mkI 1 (1 + (↑(7 * (rrS t).length) : Int) + 0 + (↑(3 * (rrP t).length) : Int)) 0, 0).snd.fst.length (0, midC (rrS t) 1 (rrS t).length 0, mkS mk3 3 (1 + (↑(7 * (rrS t).length) : Int)) 0, mkS mk3 3 (1 + (↑(7 * (rrS t).length) : Int) + 0) (rrP t).length, false, mkS mkI 1 (1 + (↑(7 * (rrS t).length) : Int) + 0 + (↑(3 * (rrP t).length) : Int)) 0, 0).snd.snd.fst.length (0, midC (rrS t) 1 (rrS t).length 0, mkS mk3 3 (1 + (↑(7 * (rrS t).length) : Int)) 0, mkS mk3 3 (1 + (↑(7 * (rrS t).length) : Int) + 0) (rrP t).length, false, mkS mkI 1 (1 + (↑(7 * (rrS t).length) : Int) + 0 + (↑(3 * (rrP t).length) : Int)) 0, 0).snd.snd.snd.fst.length (0, midC (rrS t) 1 (rrS t).length 0, mkS mk3 3 (1 + (↑(7 * (rrS t).length) : Int)) 0, mkS mk3 3 (1 + (↑(7 * (rrS t).length) : Int) + 0) (rrP t).length, false, mkS mkI 1 (1 + (↑(7 * (rrS t).length) : Int) + 0 + (↑(3 * (rrP t).length) : Int)) 0, 0).snd.snd.snd.snd.snd.fst.length && hdCo (0, midC (rrS t) 1 (rrS t).length 0, mkS mk3 3 (1 + (↑(7 * (rrS t).length) : Int)) 0, mkS mk3 3 (1 + (↑(7 * (rrS t).length) : Int) + 0) (rrP t).length, false, mkS mkI 1 (1 + (↑(7 * (rrS t).length) : Int) + 0 + (↑(3 * (rrP t).length) : Int)) 0, 0) 1) (br (mkCo (0, midC (rrS t) 1 (rrS t).length 0, mkS mk3 3 (1 + (↑(7 * (rrS t).length) : Int)) 0, mkS mk3 3 (1 + (↑(7 * (rrS t).length) : Int) + 0) (rrP t).length, false, mkS mkI 1 (1 + (↑(7 * (rrS t).length) : Int) + 0 + (↑(3 * (rrP t).length) : Int)) 0, 0) 1 != mkCo (0, rrS t, [], rrP t, false, [], 0) 1) (R (some { av := vB false, obs := [], outs := [] })) (R (some { av := vB true, obs := [], outs := [] }))) False))) False) False)) False) False))) False) False) False)) := by kernel_rfl
theorem rrS_l {t : ByteArray} (ht : t.size ≤ 1048576) : (rrS t).length ≤ 1048576 ∧ (rrP t).length ≤ 1048576 := by
  have hn : lnN t = (cutL t 10).length - 1 := rfl
  have hp2 := cutL_cnt t 10
  have h1 := (sS_sm t (lnN t)).1
  have h2 := sP_len t (lnN t)
  cases h : rrK t with
  | false =>
    rw [(rr_f h).1, (rr_f h).2]
    exact ⟨Nat.zero_le _, Nat.zero_le _⟩
  | true =>
    rw [(rr_t h).1, (rr_t h).2]
    omega
theorem held_ok (s : List (Elem kc)) (p : List (Elem k3)) (a b c : Int) (h : inC4 1 s.length 0 p.length 0 = true) (hk : b = 1 + ((7 * s.length : Nat) : Int)) :
    (inC4 1 (midC s 1 s.length 0).length (mkS mk3 3 a 0).length (mkS mk3 3 b p.length).length (mkS mkI 1 c 0).length && hdCo (0, midC s 1 s.length 0, mkS mk3 3 a 0, mkS mk3 3 b p.length, false, mkS mkI 1 c 0, 0) 1) = true := by
  rw [midC_len, mkS_len, mkS_len, mkS_len, h]
  show (hdC 1 (midC s 1 s.length 0) && (true && (hdB k3 mk3 3 (1 + ((7 * (midC s 1 s.length 0).length : Nat) : Int) + ((3 * (mkS mk3 3 a 0).length : Nat) : Int)) (mkS mk3 3 b p.length) && true))) = true
  have e : 1 + ((7 * (midC s 1 s.length 0).length : Nat) : Int) + ((3 * (mkS mk3 3 a 0).length : Nat) : Int) = b := by
    rw [midC_len, mkS_len, hk]
    omega
  rw [e, hdC_mid, hdB_mk]
  rfl
theorem co_eq (s : List (Elem kc)) (p : List (Elem k3)) (a b c : Int) : (mkCo (0, midC s 1 s.length 0, mkS mk3 3 a 0, mkS mk3 3 b p.length, false, mkS mkI 1 c 0, 0) 1 != mkCo (0, s, [], p, false, [], 0) 1) = false := by
  have e : mkCo (0, midC s 1 s.length 0, mkS mk3 3 a 0, mkS mk3 3 b p.length, false, mkS mkI 1 c 0, 0) 1 = mkCo (0, s, [], p, false, [], 0) 1 := by
    show (1 : Int) + ((7 * (midC s 1 s.length 0).length : Nat) : Int) + ((3 * (mkS mk3 3 a 0).length : Nat) : Int) + ((3 * (mkS mk3 3 b p.length).length : Nat) : Int) + ((1 * (mkS mkI 1 c 0).length : Nat) : Int) = _
    rw [midC_len, mkS_len, mkS_len, mkS_len]
    rfl
  rw [e]
  simp
theorem c8 (t : ByteArray) : Ctr Tryz.prog 8 [.val (.string t)] [] ⟨.val (.bool true), [], []⟩ := by
  refine ctr_fn okg hg8 Tryz.func8 (by kernel_rfl) (by kernel_rfl) (by kernel_rfl) fun C => ?_
  rw [e8]
  refine br_dec (fun _ => rfl) (fun h1 => ?_)
  have ht : t.size ≤ 1048576 := by omega
  obtain ⟨hS, hP⟩ := rrS_l ht
  have hs : smCo (0, rrS t, [], rrP t, false, [], 0) = true := by
    unfold smCo
    simp only [Bool.and_eq_true, decide_eq_true_eq, List.length_nil]
    omega
  have hC : inC4 1 (rrS t).length 0 (rrP t).length 0 = true := by
    unfold inC4 inM
    simp only [Bool.and_eq_true, decide_eq_true_eq]
    omega
  have hM := fun a b c hb => held_ok (rrS t) (rrP t) a b c hC hb
  have hE := fun a b c => co_eq (rrS t) (rrP t) a b c
  rw [eqCo_self, show (rrK t == rrK t) = true from by simp, hs]
  exact br_yes ht (br_yes ht (br_t rfl (br_f rfl (br_f rfl (br_t hC (br_t (hM _ _ _ (Int.add_zero _)) (br_f (hE _ _ _) (br_yes ht (br_t rfl (br_f rfl (br_f rfl (br_t (hM _ _ _ (Int.add_zero _)) (br_f (hE _ _ _) rfl)))))))))))))
end Go.Proofs.YtkjnijddbiconaaGreatDoor.Ev
