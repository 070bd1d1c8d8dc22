/- The law of FnSum. -/
import Derived.Test.YtkjnijddbiconaaDoorS0
import Derived.Test.YtkjnijddbiconaaDoorEvC
namespace Go.Proofs.YtkjnijddbiconaaDoor.Ev
open Go
set_option linter.unusedVariables false
set_option linter.unusedSimpArgs false
set_option maxRecDepth 100000
theorem byteE_len (t : ByteArray) : (byteE t).length = t.size := by
  unfold byteE
  simp
theorem byteE_at (t : ByteArray) (i : Nat) (h : i < t.size) : (byteE t)[i]? = some (byteAt t i, ()) := by
  unfold byteE
  have h' : i < t.data.toList.length := h
  rw [List.getElem?_map, List.getElem?_eq_getElem h', byteAt_l, List.getD_eq_getElem?_getD, List.getElem?_eq_getElem h']
  rfl
theorem byteAt_out (t : ByteArray) (i : Nat) (h : t.size ≤ i) : byteAt t i = 0 := by
  rw [byteAt_l, List.getD_eq_getElem?_getD, List.getElem?_eq_none h]
  rfl
/-- A text one byte of which is another one has another sum. -/
theorem sum_turn (t : ByteArray) (k : Nat) (hk : k < t.size) (v : Int) (h0 : 0 ≤ v) (h1 : v ≤ 255) (hne : v ≠ byteAt t k) : sumN (strOf ((byteE t).set k (v, ()))) ≠ sumN t := by
  have hl : (strOf ((byteE t).set k (v, ()))).size = t.size := by rw [strOf_size, List.length_set, byteE_len]
  have hkk : ((byteE t).set k (v, ()))[k]? = some (v, ()) := by rw [List.getElem?_set, if_pos rfl, if_pos (by rw [byteE_len]; exact hk)]
  refine sum_ne (k := k) hl (by omega) (fun i hi => ?_) (by rw [byteAt_strOf _ _ _ hkk h0 h1]; exact hne)
  by_cases hlt : i < t.size
  · have hb := byteAt_lt t i
    refine byteAt_strOf _ _ _ ?_ hb.1 hb.2
    rw [List.getElem?_set, if_neg (fun e => hi e.symm)]
    exact byteE_at t i hlt
  · rw [byteAt_out _ _ (by omega), byteAt_out _ _ (by omega)]
theorem turn_ne {b r : Int} (h0 : 0 ≤ b) (h1 : b ≤ 255) (r0 : 0 ≤ r) (r1 : r ≤ 254) : 0 ≤ IntKind.u8.wrap (IntKind.u8.wrap (b + 1) + r) ∧ IntKind.u8.wrap (IntKind.u8.wrap (b + 1) + r) ≤ 255 ∧ IntKind.u8.wrap (IntKind.u8.wrap (b + 1) + r) ≠ b := by
  rw [IntKind.wrap_u8, IntKind.wrap_u8]
  omega
theorem opnT_size (s : ByteArray) : (opnT s).size ≤ s.size := by
  unfold opnT
  split
  · exact cutZ_size s 58
  · exact Nat.zero_le _
theorem okB_of {b : List (Elem ku)} (h : ∀ e ∈ b, elemOk ku e) : okB b = true := by
  unfold okB
  rw [List.all_eq_true]
  intro e he
  have h1 : (decide (IntKind.u8.min ≤ (e.1 : Int)) && decide ((e.1 : Int) ≤ IntKind.u8.max)) = true := (h e he).1
  simp only [Bool.and_eq_true, decide_eq_true_eq] at h1
  have e0 : IntKind.u8.min = 0 := rfl
  have e1 : IntKind.u8.max = 255 := rfl
  have this : 0 ≤ (e.1 : Int) ∧ (e.1 : Int) ≤ 255 := by
    rw [e0, e1] at h1
    exact h1
  exact decide_eq_true this
theorem c3 (c m : List (Elem ku)) (hc : okB c = true) (hm : okB m = true) : Ctr Tryd.prog 3 [.rsl [.int .u8] c, .rsl [.int .u8] m] [] ⟨.val (.bool true), [], []⟩ := by
  refine ctr_fn okr hg3 Tryd.func3 (by kernel_rfl) (by kernel_rfl) (by kernel_rfl) fun C => ?_
  rw [e3]
  refine br_dec (fun _ => rfl) (fun h1 => br_dec (fun _ => rfl) (fun h2 => ?_))
  have hcl : (okB c && decide (c.length ≤ 1048576)) = true := by rw [hc, decide_eq_true (show c.length ≤ 1048576 by omega)]; rfl
  have hml : (okB m && decide (m.length ≤ 1048576)) = true := by rw [hm, decide_eq_true (show m.length ≤ 1048576 by omega)]; rfl
  have ht : (drT c).size ≤ 18 := tx_size (opB_ok hc) (by omega) (by omega)
  have hT := torn_size (opB_ok hm)
  generalize torn (opB m) = T at *
  generalize drT c = t at *
  have hs := sumN_lt t
  obtain ⟨o1, o2⟩ := opn_seal (t := t) (by omega)
  have hS := seal_size (t := t) ht
  have hh := hexT_size t
  have d62 : decide (t.size ≤ 4611686018427387904) = true := decide_eq_true (by omega)
  have dS : decide ((sealT t).size ≤ 1048576) = true := decide_eq_true (by omega)
  have d20 : decide (t.size ≤ 1048576) = true := decide_eq_true (by omega)
  have dH : decide ((hexT t).size ≤ 1048576) = true := decide_eq_true (by omega)
  have dT : decide (T.size ≤ 1048576) = true := decide_eq_true (by omega)
  have dO : decide ((opnT T).size ≤ 4611686018427387904) = true := decide_eq_true (by have := opnT_size T; omega)
  have kH : okH (hexT t) = true := okH_hexT t
  have rH : unhR (hexT t) = t := unhR_hexT t
  have hL : ((((hexT t).size : Int)) != IntKind.i64.wrap (2 * (t.size : Int))) = false := by
    rw [wrap_id (n := 2 * (t.size : Int)) (by omega) (by omega), hh]
    simp
  have fin : ∀ h : opnK T = true, strEq (sealT (opnT T)) T = true := fun h => by rw [seal_opn h]; exact strEq_self T
  refine br_t hcl (br_t d62 (br_t d62 (br_f (by simp) (br_no (by omega) (br_no (by omega) (br_dec (fun h3 => br_dec (fun h4 => ?_) (fun h4 => ?_)) (fun h3 => ?_)))))))
  · rw [byteE_len]
    have r0 := tmod_lt (x := (m.length : Int)) (by omega) (show (1 : Int) ≤ t.size by omega)
    have hb := byteAt_lt t ((((m.length : Int).tmod t.size).toNat : Nat) : Int)
    have hr : 0 ≤ Int.tmod (m.getD 0 (edflt ku)).1 255 ∧ Int.tmod (m.getD 0 (edflt ku)).1 255 ≤ 254 := by
      have h0 := bA_lt hm 0
      have := tmod_lt (x := bA m 0) h0.1 (show (1 : Int) ≤ 255 by omega)
      unfold bA at this
      omega
    have hk : ((m.length : Int).tmod t.size).toNat < t.size := by omega
    have hg : ((byteE t).getD ((m.length : Int).tmod t.size).toNat (edflt ku)).1 = byteAt t ((((m.length : Int).tmod t.size).toNat : Nat) : Int) := by
      rw [List.getD_eq_getElem?_getD, byteE_at t _ hk]
      rfl
    rw [hg]
    obtain ⟨q1, q2, q3⟩ := turn_ne hb.1 hb.2 hr.1 hr.2
    have hne := sum_turn t _ hk _ q1 q2 q3
    have hsz : (strOf ((byteE t).set ((m.length : Int).tmod t.size).toNat (IntKind.u8.wrap (IntKind.u8.wrap (byteAt t ((((m.length : Int).tmod t.size).toNat : Nat) : Int) + 1) + Int.tmod (m.getD 0 (edflt ku)).1 255), ()))).size ≤ 4611686018427387904 := by
      rw [strOf_size, List.length_set, byteE_len]
      omega
    refine br_t (by rw [decide_eq_false (show ¬ (t.size : Int) = 0 by omega)]; rfl) (br_yes r0 (br_yes ⟨by omega, by omega⟩ (br_yes r0 (br_t (decide_eq_true hsz) (br_f (by simpa using hne) ?_)))))
    refine br_t d62 (br_t dS (br_t d20 (br_t dH (br_t d62 (br_f ?_ (br_f ?_ (br_f ?_ (br_f ?_ (br_f ?_ (br_f hL (br_t hml (br_t dT (br_t dT (br_t ?_ (br_not (fun h => rfl) (fun h => br_t dO ?_))))))))))))))))
    · rw [strEq_self]; rfl
    · rw [o1]; rfl
    · rw [o2, strEq_self]; rfl
    · rw [kH]; rfl
    · rw [rH, strEq_self]; rfl
    · simp
    rw [fin h]
  · refine br_t d62 (br_t dS (br_t d20 (br_t dH (br_t d62 (br_f ?_ (br_f ?_ (br_f ?_ (br_f ?_ (br_f ?_ (br_f hL (br_t hml (br_t dT (br_t dT (br_t ?_ (br_not (fun h => rfl) (fun h => br_t dO ?_))))))))))))))))
    · rw [strEq_self]; rfl
    · rw [o1]; rfl
    · rw [o2, strEq_self]; rfl
    · rw [kH]; rfl
    · rw [rH, strEq_self]; rfl
    · simp
    rw [fin h]
  · refine br_t d62 (br_t dS (br_t d20 (br_t dH (br_t d62 (br_f ?_ (br_f ?_ (br_f ?_ (br_f ?_ (br_f ?_ (br_f hL (br_t hml (br_t dT (br_t dT (br_t ?_ (br_not (fun h => rfl) (fun h => br_t dO ?_))))))))))))))))
    · rw [strEq_self]; rfl
    · rw [o1]; rfl
    · rw [o2, strEq_self]; rfl
    · rw [kH]; rfl
    · rw [rH, strEq_self]; rfl
    · simp
    rw [fin h]
end Go.Proofs.YtkjnijddbiconaaDoor.Ev
