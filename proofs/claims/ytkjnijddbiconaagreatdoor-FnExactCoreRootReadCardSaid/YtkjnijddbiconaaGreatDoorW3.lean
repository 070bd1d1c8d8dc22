/- The law of PtrRead. -/
import Derived.Test.YtkjnijddbiconaaGreatDoorW2T
import Derived.Test.YtkjnijddbiconaaGreatDoorD3T
import Derived.Test.YtkjnijddbiconaaGreatDoorE1
import Derived.Lib.ItoaLen
namespace Go.Proofs.YtkjnijddbiconaaGreatDoor.Ev
open Go
set_option linter.unusedVariables false
set_option linter.unusedSimpArgs false
set_option maxRecDepth 100000
set_option maxHeartbeats 1000000
def wd (t : ByteArray) (c : Int) (i : Nat) : ByteArray := at1 (cutL t c) i
def p3K (t : ByteArray) : Bool := decide ((t.size : Int) ≤ 30) && (decide (((cutL t 46).length : Int) = 3) && (numK (wd t 46 0) && (numK (wd t 46 1) && (numK (wd t 46 2) && strEq (ptrT (numN (wd t 46 0)) (numN (wd t 46 1)) (numN (wd t 46 2))) t))))
def isD (t : ByteArray) : Bool := strEq t ⟨#[45]⟩
def prK (t : ByteArray) : Bool := isD t || p3K t
def prV (t : ByteArray) (j : Nat) : Int := match isD t with
  | true => 0
  | false => match p3K t with
    | true => numN (wd t 46 j)
    | false => 0
def g162 : G1
  | [.val (.string t)], [], k => br (decide (t.size ≤ 1048576)) (k ⟨.tup [.agg [.val (.int .i64 (prV t 0)), .val (.int .i64 (prV t 1)), .val (.int .i64 (prV t 2))], .val (.bool (prK t))], [], []⟩) False
  | _, _, _ => False
def t3A (t : ByteArray) : Bool := decide (((cutL t 46).length : Int) = 3) && allB 3 fun i => atK (wd t 46 i)
def t3V (t : ByteArray) (j : Nat) : Int := match t3A t with
  | true => atN (wd t 46 j)
  | false => 0
def t3K (t : ByteArray) : Bool := t3A t && strEq (dec (atN (wd t 46 0)) ++ ⟨#[46]⟩ ++ dec (atN (wd t 46 1)) ++ ⟨#[46]⟩ ++ dec (atN (wd t 46 2))) t
def g117 : G1
  | [.val (.string t)], [], k => br (decide (t.size ≤ 1048576)) (k ⟨.tup [.val (.int .i64 (t3V t 0)), .val (.int .i64 (t3V t 1)), .val (.int .i64 (t3V t 2)), .val (.bool (t3K t))], [], []⟩) False
  | _, _, _ => False
theorem splitW_wlen (c : UInt8) : ∀ l, ∀ w ∈ splitW c l, w.length ≤ l.length
  | [], w, h => by simp [splitW] at h; simp [h]
  | b :: l, w, h => by
    have ih := splitW_wlen c l
    unfold splitW at h
    split at h
    · rcases List.mem_cons.1 h with rfl | h
      · simp
      · have := ih w h
        simp only [List.length_cons]
        omega
    · cases hs : splitW c l with
      | nil => exact absurd hs (splitW_ne c l)
      | cons v vs =>
        rw [hs] at h ih
        rcases List.mem_cons.1 h with rfl | h
        · have := ih v (by simp)
          simp only [List.length_cons, List.cons_append, List.nil_append]
          omega
        · have := ih w (by simp [h])
          simp only [List.length_cons]
          omega
theorem cutL_size (s : ByteArray) (c : Int) : ∀ e ∈ cutL s c, e.1.size ≤ s.size := by
  intro e he
  unfold cutL at he
  obtain ⟨w, hw, rfl⟩ := List.mem_map.1 he
  exact splitW_wlen _ _ w hw
theorem wd_size (s : ByteArray) (c : Int) (i : Nat) : (wd s c i).size ≤ s.size := by
  unfold wd at1
  by_cases h : i < (cutL s c).length
  · exact cutL_size s c _ (getD_mem _ h)
  · rw [List.getD_eq_getElem?_getD, List.getElem?_eq_none (by omega)]
    exact Nat.zero_le _
def pts3 (a b c : Int) : ByteArray := dec a ++ ⟨#[46]⟩ ++ dec b ++ ⟨#[46]⟩ ++ dec c
theorem cutL_of {s : ByteArray} {c : Int} {ws : List ByteArray} (h0 : ws ≠ []) (hf : ∀ w ∈ ws, UInt8.ofNat c.toNat ∉ w.data.toList) (h : s.data.toList = joinW (UInt8.ofNat c.toNat) (ws.map fun w => w.data.toList)) : cutL s c = ws.map fun w => (w, ()) := by
  unfold cutL
  rw [h, splitW_join _ _ (by simpa using h0) (fun w hw => by obtain ⟨v, hv, rfl⟩ := List.mem_map.1 hw; exact hf v hv), List.map_map]
  exact List.map_congr_left fun w _ => by obtain ⟨⟨l⟩⟩ := w; rfl
theorem cut3 {a b c : Int} (ha : 0 ≤ a) (hb : 0 ≤ b) (hc : 0 ≤ c) : cutL (pts3 a b c) 46 = [(dec a, ()), (dec b, ()), (dec c, ())] := by
  refine cutL_of (ws := [dec a, dec b, dec c]) (by simp) (fun w hw => ?_) ?_
  · simp only [List.mem_cons, List.not_mem_nil, or_false] at hw
    rcases hw with rfl | rfl | rfl
    · exact dec_free ha (by decide)
    · exact dec_free hb (by decide)
    · exact dec_free hc (by decide)
  · unfold pts3
    simp only [ByteArray.data_append, Array.toList_append, List.map_cons, List.map_nil, joinW]
    simp
theorem wd3 {a b c : Int} (ha : 0 ≤ a) (hb : 0 ≤ b) (hc : 0 ≤ c) : wd (pts3 a b c) 46 0 = dec a ∧ wd (pts3 a b c) 46 1 = dec b ∧ wd (pts3 a b c) 46 2 = dec c := by
  unfold wd at1
  rw [cut3 ha hb hc]
  exact ⟨rfl, rfl, rfl⟩
theorem dec_szk {n : Int} (h : 0 ≤ n) (k : Nat) (h2 : n.toNat < 10 ^ (k + 1)) : (dec n).size ≤ k + 1 := by
  have e : (dec n).size = (decD n.toNat).length := by rw [← dec_data h]; rfl
  rw [e]
  exact decD_short k _ h2
theorem pts3_size {a b c : Int} (ha : 0 ≤ a ∧ a ≤ 120) (hb : 0 ≤ b ∧ b ≤ 65520) (hc : 0 ≤ c ∧ c ≤ 1000000) : (pts3 a b c).size ≤ 17 := by
  have h1 := dec_szk ha.1 2 (by have : (10 : Nat) ^ (2 + 1) = 1000 := by decide
                                omega)
  have h2 := dec_szk hb.1 4 (by have : (10 : Nat) ^ (4 + 1) = 100000 := by decide
                                omega)
  have h3 := dec_szk hc.1 6 (by have : (10 : Nat) ^ (6 + 1) = 10000000 := by decide
                                omega)
  have c1 : (⟨#[46]⟩ : ByteArray).size = 1 := rfl
  unfold pts3
  simp only [ByteArray.size_append, c1]
  omega
theorem ptrT_real {a b c : Int} (h : realP a b c = true) : ptrT a b c = pts3 a b c := by
  unfold realP at h
  rw [Bool.and_eq_true] at h
  unfold ptrT
  rw [h.1]
  have : (a == 0) = false := by
    have := h.2
    unfold bne at this
    cases hh : a == 0 with
    | false => rfl
    | true => rw [hh] at this; cases this
  rw [this]
  rfl
theorem real_ptr {a b c : Int} (h : realP a b c = true) : (0 ≤ a ∧ a ≤ 120) ∧ (0 ≤ b ∧ b ≤ 65520) ∧ (0 ≤ c ∧ c ≤ 1000000) := by
  unfold realP at h
  rw [Bool.and_eq_true] at h
  exact ptr_range h.1
/-- A text of three numbers. -/
theorem t3_of {a b c : Int} (ha : 0 ≤ a ∧ a < 1000000000000000) (hb : 0 ≤ b ∧ b < 1000000000000000) (hc : 0 ≤ c ∧ c < 1000000000000000) :
    t3K (pts3 a b c) = true ∧ t3V (pts3 a b c) 0 = a ∧ t3V (pts3 a b c) 1 = b ∧ t3V (pts3 a b c) 2 = c := by
  obtain ⟨w0, w1, w2⟩ := wd3 ha.1 hb.1 hc.1
  obtain ⟨k0, n0⟩ := at_dec ha.1 ha.2
  obtain ⟨k1, n1⟩ := at_dec hb.1 hb.2
  obtain ⟨k2, n2⟩ := at_dec hc.1 hc.2
  have hl : ((cutL (pts3 a b c) 46).length : Int) = 3 := by rw [cut3 ha.1 hb.1 hc.1]; rfl
  have hA : t3A (pts3 a b c) = true := by
    unfold t3A
    rw [decide_eq_true hl, Bool.true_and]
    refine allB_t fun i hi => ?_
    have : i = 0 ∨ i = 1 ∨ i = 2 := by omega
    rcases this with rfl | rfl | rfl
    · rw [w0]; exact k0
    · rw [w1]; exact k1
    · rw [w2]; exact k2
  unfold t3K t3V
  rw [hA, w0, w1, w2, n0, n1, n2]
  refine ⟨?_, rfl, rfl, rfl⟩
  rw [Bool.true_and]
  exact strEq_self _
theorem t3K_inv {t : ByteArray} (h : t3K t = true) : t3A t = true ∧ t = pts3 (t3V t 0) (t3V t 1) (t3V t 2) := by
  unfold t3K at h
  rw [Bool.and_eq_true] at h
  refine ⟨h.1, ?_⟩
  unfold t3V
  rw [h.1]
  exact (strEq_iff.1 h.2).symm
theorem num3 {a b c : Int} (ha : 0 ≤ a ∧ a < 1000000000000000) (hb : 0 ≤ b ∧ b < 1000000000000000) (hc : 0 ≤ c ∧ c < 1000000000000000) :
    (numK (wd (pts3 a b c) 46 0) = true ∧ numN (wd (pts3 a b c) 46 0) = a) ∧ (numK (wd (pts3 a b c) 46 1) = true ∧ numN (wd (pts3 a b c) 46 1) = b) ∧ (numK (wd (pts3 a b c) 46 2) = true ∧ numN (wd (pts3 a b c) 46 2) = c) := by
  obtain ⟨w0, w1, w2⟩ := wd3 ha.1 hb.1 hc.1
  rw [w0, w1, w2]
  exact ⟨num_dec ha.1 ha.2, num_dec hb.1 hb.2, num_dec hc.1 hc.2⟩
/-- What the program reads, and what the reference reads. -/
theorem rd_eq {t : ByteArray} (hd : isD t = false) : (t3K t && realP (t3V t 0) (t3V t 1) (t3V t 2)) = p3K t ∧ (p3K t = true → ∀ j, j < 3 → t3V t j = numN (wd t 46 j)) := by
  have key : ∀ a b c : Int, realP a b c = true → t = pts3 a b c → p3K t = true ∧ t3K t = true ∧ (t3V t 0 = a ∧ t3V t 1 = b ∧ t3V t 2 = c) ∧ (numN (wd t 46 0) = a ∧ numN (wd t 46 1) = b ∧ numN (wd t 46 2) = c) := by
    intro a b c hr ht
    obtain ⟨ra, rb, rc⟩ := real_ptr hr
    have ha : 0 ≤ a ∧ a < 1000000000000000 := ⟨ra.1, by omega⟩
    have hb : 0 ≤ b ∧ b < 1000000000000000 := ⟨rb.1, by omega⟩
    have hc : 0 ≤ c ∧ c < 1000000000000000 := ⟨rc.1, by omega⟩
    obtain ⟨⟨k0, n0⟩, ⟨k1, n1⟩, k2, n2⟩ := num3 ha hb hc
    have h3 := t3_of ha hb hc
    have hs := pts3_size ra rb rc
    rw [ht]
    refine ⟨?_, h3.1, h3.2, n0, n1, n2⟩
    unfold p3K
    rw [k0, k1, k2, n0, n1, n2, ptrT_real hr, strEq_self, decide_eq_true (show ((pts3 a b c).size : Int) ≤ 30 by omega), decide_eq_true (show ((cutL (pts3 a b c) 46).length : Int) = 3 by rw [cut3 ha.1 hb.1 hc.1]; rfl)]
    rfl
  have fwd : p3K t = true → ∃ a b c, realP a b c = true ∧ t = pts3 a b c := by
    intro h
    unfold p3K at h
    simp only [Bool.and_eq_true, decide_eq_true_eq] at h
    obtain ⟨_, hl, _, _, _, he⟩ := h
    have he := strEq_iff.1 he
    generalize numN (wd t 46 0) = a at he
    generalize numN (wd t 46 1) = b at he
    generalize numN (wd t 46 2) = c at he
    cases hr : realP a b c with
    | true => exact ⟨a, b, c, hr, by rw [← he, ptrT_real hr]⟩
    | false =>
      exfalso
      unfold ptrT at he
      cases hok : ptrOk a b c with
      | false =>
        rw [hok] at he
        have he : ByteArray.empty = t := he
        rw [← he] at hl
        have : ((cutL ByteArray.empty 46).length : Int) = 1 := rfl
        omega
      | true =>
        rw [hok] at he
        cases h0 : a == 0 with
        | true =>
          rw [h0] at he
          have he : (⟨#[45]⟩ : ByteArray) = t := he
          rw [← he] at hd
          unfold isD at hd
          rw [strEq_self] at hd
          cases hd
        | false =>
          unfold realP at hr
          rw [hok, Bool.true_and] at hr
          unfold bne at hr
          rw [h0] at hr
          cases hr
  constructor
  · cases hp : p3K t with
    | true =>
      obtain ⟨a, b, c, hr, ht⟩ := fwd hp
      obtain ⟨_, k, ⟨v0, v1, v2⟩, _⟩ := key a b c hr ht
      rw [k, v0, v1, v2, hr]
      rfl
    | false =>
      cases hk : t3K t with
      | false => rfl
      | true =>
        rw [Bool.true_and]
        cases hr : realP (t3V t 0) (t3V t 1) (t3V t 2) with
        | false => rfl
        | true =>
          have := (key _ _ _ hr (t3K_inv hk).2).1
          rw [hp] at this
          cases this
  · intro hp j hj
    obtain ⟨a, b, c, hr, ht⟩ := fwd hp
    obtain ⟨_, k, ⟨v0, v1, v2⟩, n0, n1, n2⟩ := key a b c hr ht
    have : j = 0 ∨ j = 1 ∨ j = 2 := by omega
    rcases this with rfl | rfl | rfl
    · rw [v0, n0]
    · rw [v1, n1]
    · rw [v2, n2]
noncomputable def G162 : Gk := gk [(93, g93), (163, g163), (166, g166)]
theorem hg162 : HG Tryz.prog G162 := (hg_cons h93 (hg_cons h163 (hg_cons h166 hg_nil)))
theorem e162 (L : Lp) (R : Option Res → Prop) (t : ByteArray) : (bodyP Ef G162 L Tryz.f162 [.val (.string t)] [] R) = (
    br (strEq t { data := #[45] }) (R (some { av := AV.tup [AV.agg [vI 0, vI 0, vI 0], vB true], obs := [], outs := [] })) (br (decide (t.size ≤ 1048576) && true) (br (decide ((↑t.size : Int) > 30)) (R (some { av := AV.tup [AV.agg [vI 0, vI 0, vI 0], vB false], obs := [], outs := [] })) (br ((↑(cutL t 46).length : Int) != 3) (R (some { av := AV.tup [AV.agg [vI 0, vI 0, vI 0], vB false], obs := [], outs := [] })) (br (decide ((0 : Int) ≤ 0 ∧ 0 < (↑(cutL t 46).length : Int))) (br (decide (ByteArray.size ((cutL t 46).getD 0 (edflt ks)).fst ≤ 1048576)) (br (decide ((0 : Int) ≤ 1 ∧ 1 < (↑(cutL t 46).length : Int))) (br (decide (ByteArray.size ((cutL t 46).getD 1 (edflt ks)).fst ≤ 1048576)) (br (decide ((0 : Int) ≤ 2 ∧ 2 < (↑(cutL t 46).length : Int))) (br (decide (ByteArray.size ((cutL t 46).getD 2 (edflt ks)).fst ≤ 1048576)) (br (!numK ((cutL t 46).getD 0 (edflt ks)).fst) (R (some { av := AV.tup [AV.agg [vI 0, vI 0, vI 0], vB false], obs := [], outs := [] })) (br (!numK ((cutL t 46).getD 1 (edflt ks)).fst) (R (some { av := AV.tup [AV.agg [vI 0, vI 0, vI 0], vB false], obs := [], outs := [] })) (br (!numK ((cutL t 46).getD 2 (edflt ks)).fst) (R (some { av := AV.tup [AV.agg [vI 0, vI 0, vI 0], vB false], obs := [], outs := [] })) (br (!strEq (ptrT (numN ((cutL t 46).getD 0 (edflt ks)).fst) (numN ((cutL t 46).getD 1 (edflt ks)).fst) (numN ((cutL t 46).getD 2 (edflt ks)).fst)) t) (R (some { av := AV.tup [AV.agg [vI 0, vI 0, vI 0], vB false], obs := [], outs := [] })) (R (some { av := AV.tup [AV.agg [vI (numN ((cutL t 46).getD 0 (edflt ks)).fst), vI (numN ((cutL t 46).getD 1 (edflt ks)).fst), vI (numN ((cutL t 46).getD 2 (edflt ks)).fst)], vB true], obs := [], outs := [] })))))) False) False) False) False) False) False))) False)) := by kernel_rfl
theorem prV_d {t : ByteArray} (h : isD t = true) (j : Nat) : prV t j = 0 := by unfold prV; rw [h]
theorem prV_f {t : ByteArray} (h : isD t = false) (h2 : p3K t = false) (j : Nat) : prV t j = 0 := by unfold prV; rw [h, h2]
theorem prV_t {t : ByteArray} (h : isD t = false) (h2 : p3K t = true) (j : Nat) : prV t j = numN (wd t 46 j) := by unfold prV; rw [h, h2]
theorem prK_d {t : ByteArray} (h : isD t = true) : prK t = true := by unfold prK; rw [h]; rfl
theorem prK_n {t : ByteArray} (h : isD t = false) : prK t = p3K t := by unfold prK; rw [h]; rfl
theorem res_f {t : ByteArray} (h : isD t = false) (h2 : p3K t = false) : (some ⟨.tup [.agg [vI 0, vI 0, vI 0], vB false], [], []⟩ : Option Res) = some ⟨.tup [.agg [.val (.int .i64 (prV t 0)), .val (.int .i64 (prV t 1)), .val (.int .i64 (prV t 2))], .val (.bool (prK t))], [], []⟩ := by
  rw [prV_f h h2, prV_f h h2, prV_f h h2, prK_n h, h2]
theorem res_d {t : ByteArray} (h : isD t = true) : (some ⟨.tup [.agg [vI 0, vI 0, vI 0], vB true], [], []⟩ : Option Res) = some ⟨.tup [.agg [.val (.int .i64 (prV t 0)), .val (.int .i64 (prV t 1)), .val (.int .i64 (prV t 2))], .val (.bool (prK t))], [], []⟩ := by
  rw [prV_d h, prV_d h, prV_d h, prK_d h]
theorem h162 : G1Ok Tryz.prog 162 g162 := by
  intro args obs k h
  unfold g162 at h
  split at h
  · rename_i k t
    obtain ⟨hl, h⟩ := brd h
    refine ⟨_, ctr_fn okf hg162 Tryz.func162 (by kernel_rfl) (by kernel_rfl) (by kernel_rfl) fun C => ?_, h⟩
    rw [e162]
    have ws : ∀ i, (wd t 46 i).size ≤ 1048576 := fun i => Nat.le_trans (wd_size t 46 i) hl
    refine br_intro (fun h0 => res_d h0) (fun h0 => br_t (by rw [decide_eq_true hl]; rfl) ?_)
    have h0 : isD t = false := h0
    refine br_dec (fun h1 => res_f h0 ?_) (fun h1 => br_bne (fun h2 => res_f h0 ?_) (fun h2 => ?_))
    · unfold p3K
      rw [decide_eq_false (show ¬ (t.size : Int) ≤ 30 by omega)]
      rfl
    · unfold p3K
      have : ¬ ((cutL t 46).length : Int) = 3 := beq_eq_false_iff_ne.1 h2
      rw [decide_eq_false this]
      simp
    have hL : ((cutL t 46).length : Int) = 3 := eq_of_beq h2
    have e0 : decide ((t.size : Int) ≤ 30) = true := decide_eq_true (show (t.size : Int) ≤ 30 by omega)
    have e1 : decide (((cutL t 46).length : Int) = 3) = true := decide_eq_true hL
    refine br_yes ⟨by omega, by omega⟩ (br_yes (ws 0) (br_yes ⟨by omega, by omega⟩ (br_yes (ws 1) (br_yes ⟨by omega, by omega⟩ (br_yes (ws 2) (br_not (fun h3 => res_f h0 ?_) (fun h3 => br_not (fun h4 => res_f h0 ?_) (fun h4 => br_not (fun h5 => res_f h0 ?_) (fun h5 => br_not (fun h6 => res_f h0 ?_) (fun h6 => ?_))))))))))
    · unfold p3K
      rw [show numK (wd t 46 0) = false from h3]
      simp
    · unfold p3K
      rw [show numK (wd t 46 1) = false from h4]
      simp
    · unfold p3K
      rw [show numK (wd t 46 2) = false from h5]
      simp
    · unfold p3K
      rw [show strEq (ptrT (numN (wd t 46 0)) (numN (wd t 46 1)) (numN (wd t 46 2))) t = false from h6]
      simp
    · have hp : p3K t = true := by
        unfold p3K
        rw [e0, e1, show numK (wd t 46 0) = true from h3, show numK (wd t 46 1) = true from h4, show numK (wd t 46 2) = true from h5, show strEq (ptrT (numN (wd t 46 0)) (numN (wd t 46 1)) (numN (wd t 46 2))) t = true from h6]
        rfl
      show _ = _
      rw [prV_t h0 hp, prV_t h0 hp, prV_t h0 hp, prK_n h0, hp]
      rfl
  · exact h.elim
noncomputable def E117 : Env := Ef.of Tryz.f117
noncomputable def G117 : Gk := gk [(97, g97), (171, g171), (118, g118)]
noncomputable def lp117 (n : Nat) : Code := (loopOf n (codeOf Tryz.f117)).getD .skip
noncomputable def ct117 (L : Lp) (R : Option Res → Prop) (n : Nat) : Kt := contOf E117 G117 L n (codeOf Tryz.f117) (endK E117 Tryz.f117.results.toList R)
noncomputable def rk117 (L : Lp) (R : Option Res → Prop) (n : Nat) (N : St → Prop) : Kt := rk (jof E117 (lp117 n)) N (ct117 L R n)
noncomputable def LOOP117 (L : Lp) (R : Option Res → Prop) (n : Nat) (st : St) : Prop := L (lp117 n) st (ct117 L R n)
theorem hg117 : HG Tryz.prog G117 := (hg_cons h97 (hg_cons h171 (hg_cons h118 hg_nil)))
theorem okf117 : Ok Tryz.prog E117 := okf.of Tryz.f117
theorem e117 (L : Lp) (R : Option Res → Prop) (t : ByteArray) : (bodyP Ef G117 L Tryz.f117 [.val (.string t)] [] R) = (
    br (decide (t.size ≤ 1048576) && true) (br ((↑(cutL t 46).length : Int) != 3) (R (some { av := AV.tup [vI 0, vI 0, vI 0, vB false], obs := [], outs := [] })) (LOOP117 L R 6 { tm := [vS t, vJ, vJ, vJ, vJ, vJ, vJ, AV.ptr 0 0, vJ, vJ, vJ, vJ, vJ, vJ, vJ, vJ, vJ, AV.ows 1, vI (↑(cutL t 46).length : Int), vI 0, vJ, vJ, vJ, vJ, vJ, vJ, vJ, vJ, vJ, vJ, vJ, vJ, vJ, vJ, vJ, vJ, vJ, vJ, vJ, vJ, vJ, vJ, vJ, vJ, vJ, vJ, vJ, vJ, vJ, vJ, vJ], ob := [(0, AO.box [vI 0, vI 0, vI 0]), (1, AO.row ks (cutL t 46))], nx := 1000000, ps := [] })) False) := by kernel_rfl
def st117 (t : ByteArray) (i a b c : Int) : St :=  ⟨[vS t, vJ, vJ, vJ, vJ, vJ, vJ, AV.ptr 0 0, vJ, vJ, vJ, vJ, vJ, vJ, vJ, vJ, vJ, AV.ows 1, vI (↑(cutL t 46).length : Int), .val (.int .i64 i), vJ, vJ, vJ, vJ, vJ, vJ, vJ, vJ, vJ, vJ, vJ, vJ, vJ, vJ, vJ, vJ, vJ, vJ, vJ, vJ, vJ, vJ, vJ, vJ, vJ, vJ, vJ, vJ, vJ, vJ, vJ], [(0, .box [.val (.int .i64 a), .val (.int .i64 b), .val (.int .i64 c)]), (1, AO.row ks (cutL t 46))], 1000000, []⟩
theorem b117_0 (L : Lp) (R : Option Res → Prop) (N : St → Prop) (t : ByteArray) (a b c : Int) : (evP E117 G117 L (lp117 6) (st117 t 0 a b c) (rk117 L R 6 N)) = (
    br (decide (0 < (↑(cutL t 46).length : Int))) (br (decide ((0 : Int) ≤ 0 ∧ 0 < (↑(cutL t 46).length : Int))) (br (decide (ByteArray.size ((cutL t 46).getD 0 (edflt ks)).fst ≤ 1048576)) (br (atK ((cutL t 46).getD 0 (edflt ks)).fst) (N { tm := [vS t, vJ, vJ, vJ, vJ, vJ, vJ, AV.ptr 0 0, vJ, vJ, vJ, vJ, vJ, vJ, vJ, vJ, vJ, AV.ows 1, vI (↑(cutL t 46).length : Int), vI 1, vJ, vJ, vJ, vJ, vJ, vJ, vJ, vJ, vJ, vJ, vJ, vJ, vJ, vJ, vJ, vJ, vJ, vJ, vJ, vJ, vJ, vJ, vJ, vJ, vJ, vJ, vJ, vJ, vJ, vJ, vJ], ob := [(0, AO.box [vI (atN ((cutL t 46).getD 0 (edflt ks)).fst), vI b, vI c]), (1, AO.row ks (cutL t 46))], nx := 1000000, ps := [] }) (R (some { av := AV.tup [vI 0, vI 0, vI 0, vB false], obs := [], outs := [] }))) False) False) (br (allN [(a, ()), (b, ()), (c, ())] && (decide ([(a, ()), (b, ()), (c, ())].length ≤ 1048576) && decide ((joinT (decS [(a, ()), (b, ()), (c, ())]) { data := #[46] }).size ≤ 1099511627776))) (R (some { av := AV.tup [vI a, vI b, vI c, vB (strEq (joinT (decS [(a, ()), (b, ()), (c, ())]) { data := #[46] }) t)], obs := [], outs := [] })) False)) := by kernel_rfl
theorem b117_1 (L : Lp) (R : Option Res → Prop) (N : St → Prop) (t : ByteArray) (a b c : Int) : (evP E117 G117 L (lp117 6) (st117 t 1 a b c) (rk117 L R 6 N)) = (
    br (decide (1 < (↑(cutL t 46).length : Int))) (br (decide ((0 : Int) ≤ 1 ∧ 1 < (↑(cutL t 46).length : Int))) (br (decide (ByteArray.size ((cutL t 46).getD 1 (edflt ks)).fst ≤ 1048576)) (br (atK ((cutL t 46).getD 1 (edflt ks)).fst) (N { tm := [vS t, vJ, vJ, vJ, vJ, vJ, vJ, AV.ptr 0 0, vJ, vJ, vJ, vJ, vJ, vJ, vJ, vJ, vJ, AV.ows 1, vI (↑(cutL t 46).length : Int), vI 2, vJ, vJ, vJ, vJ, vJ, vJ, vJ, vJ, vJ, vJ, vJ, vJ, vJ, vJ, vJ, vJ, vJ, vJ, vJ, vJ, vJ, vJ, vJ, vJ, vJ, vJ, vJ, vJ, vJ, vJ, vJ], ob := [(0, AO.box [vI a, vI (atN ((cutL t 46).getD 1 (edflt ks)).fst), vI c]), (1, AO.row ks (cutL t 46))], nx := 1000000, ps := [] }) (R (some { av := AV.tup [vI 0, vI 0, vI 0, vB false], obs := [], outs := [] }))) False) False) (br (allN [(a, ()), (b, ()), (c, ())] && (decide ([(a, ()), (b, ()), (c, ())].length ≤ 1048576) && decide ((joinT (decS [(a, ()), (b, ()), (c, ())]) { data := #[46] }).size ≤ 1099511627776))) (R (some { av := AV.tup [vI a, vI b, vI c, vB (strEq (joinT (decS [(a, ()), (b, ()), (c, ())]) { data := #[46] }) t)], obs := [], outs := [] })) False)) := by kernel_rfl
theorem b117_2 (L : Lp) (R : Option Res → Prop) (N : St → Prop) (t : ByteArray) (a b c : Int) : (evP E117 G117 L (lp117 6) (st117 t 2 a b c) (rk117 L R 6 N)) = (
    br (decide (2 < (↑(cutL t 46).length : Int))) (br (decide ((0 : Int) ≤ 2 ∧ 2 < (↑(cutL t 46).length : Int))) (br (decide (ByteArray.size ((cutL t 46).getD 2 (edflt ks)).fst ≤ 1048576)) (br (atK ((cutL t 46).getD 2 (edflt ks)).fst) (N { tm := [vS t, vJ, vJ, vJ, vJ, vJ, vJ, AV.ptr 0 0, vJ, vJ, vJ, vJ, vJ, vJ, vJ, vJ, vJ, AV.ows 1, vI (↑(cutL t 46).length : Int), vI 3, vJ, vJ, vJ, vJ, vJ, vJ, vJ, vJ, vJ, vJ, vJ, vJ, vJ, vJ, vJ, vJ, vJ, vJ, vJ, vJ, vJ, vJ, vJ, vJ, vJ, vJ, vJ, vJ, vJ, vJ, vJ], ob := [(0, AO.box [vI a, vI b, vI (atN ((cutL t 46).getD 2 (edflt ks)).fst)]), (1, AO.row ks (cutL t 46))], nx := 1000000, ps := [] }) (R (some { av := AV.tup [vI 0, vI 0, vI 0, vB false], obs := [], outs := [] }))) False) False) (br (allN [(a, ()), (b, ()), (c, ())] && (decide ([(a, ()), (b, ()), (c, ())].length ≤ 1048576) && decide ((joinT (decS [(a, ()), (b, ()), (c, ())]) { data := #[46] }).size ≤ 1099511627776))) (R (some { av := AV.tup [vI a, vI b, vI c, vB (strEq (joinT (decS [(a, ()), (b, ()), (c, ())]) { data := #[46] }) t)], obs := [], outs := [] })) False)) := by kernel_rfl
theorem b117_3 (L : Lp) (R : Option Res → Prop) (N : St → Prop) (t : ByteArray) (a b c : Int) : (evP E117 G117 L (lp117 6) (st117 t 3 a b c) (rk117 L R 6 N)) = (
    br (decide (3 < (↑(cutL t 46).length : Int))) (br (decide ((0 : Int) ≤ 3 ∧ 3 < (↑(cutL t 46).length : Int))) (br (decide (ByteArray.size ((cutL t 46).getD 3 (edflt ks)).fst ≤ 1048576)) (br (atK ((cutL t 46).getD 3 (edflt ks)).fst) False (R (some { av := AV.tup [vI 0, vI 0, vI 0, vB false], obs := [], outs := [] }))) False) False) (br (allN [(a, ()), (b, ()), (c, ())] && (decide ([(a, ()), (b, ()), (c, ())].length ≤ 1048576) && decide ((joinT (decS [(a, ()), (b, ()), (c, ())]) { data := #[46] }).size ≤ 1099511627776))) (R (some { av := AV.tup [vI a, vI b, vI c, vB (strEq (joinT (decS [(a, ()), (b, ()), (c, ())]) { data := #[46] }) t)], obs := [], outs := [] })) False)) := by kernel_rfl
theorem atN_in (s : ByteArray) : inN (atN s) = true := by
  unfold atN
  split
  · rename_i v hv
    have := Lib.atoiAll_bounds hv
    exact inN_of this.1 this.2
  · have := Lib.atoiSat_bounds s.data.toList
    exact inN_of this.1 this.2
  · rfl
theorem dec_size_all {n : Int} (h : inN n = true) : (dec n).size ≤ 21 := by
  have h := of_decide_eq_true h
  have := Lib.itoa_length_le n h.1 h.2
  rw [dec_lib]
  exact this
theorem points_ok (a b c : Int) (ha : inN a = true) (hb : inN b = true) (hc : inN c = true) : (allN [(a, ()), (b, ()), (c, ())] && (decide ([(a, ()), (b, ()), (c, ())].length ≤ 1048576) && decide ((joinT (decS [(a, ()), (b, ()), (c, ())]) ⟨#[46]⟩).size ≤ 1099511627776))) = true := by
  have e : allN [(a, ()), (b, ()), (c, ())] = true := by
    show (inN a && (inN b && (inN c && true))) = true
    rw [ha, hb, hc]
    rfl
  have h1 := dec_size_all ha
  have h2 := dec_size_all hb
  have h3 := dec_size_all hc
  have e2 : joinT (decS [(a, ()), (b, ()), (c, ())]) ⟨#[46]⟩ = dec a ++ ⟨#[46]⟩ ++ dec b ++ ⟨#[46]⟩ ++ dec c := join3 _ _ _ _
  have c1 : (⟨#[46]⟩ : ByteArray).size = 1 := rfl
  rw [e, e2, Bool.true_and, Bool.and_eq_true, decide_eq_true_eq, decide_eq_true_eq]
  refine ⟨by show 3 ≤ _; omega, ?_⟩
  simp only [ByteArray.size_append, c1]
  omega
theorem t3_f {t : ByteArray} (h : t3A t = false) : (some ⟨.tup [vI 0, vI 0, vI 0, vB false], [], []⟩ : Option Res) = some ⟨.tup [.val (.int .i64 (t3V t 0)), .val (.int .i64 (t3V t 1)), .val (.int .i64 (t3V t 2)), .val (.bool (t3K t))], [], []⟩ := by
  unfold t3K t3V
  rw [h]
  rfl
def tv (t : ByteArray) (i j : Nat) : Int := if j < i then atN (wd t 46 j) else 0
theorem h117 : G1Ok Tryz.prog 117 g117 := by
  intro args obs k h
  unfold g117 at h
  split at h
  · rename_i k t
    obtain ⟨hl, h⟩ := brd h
    refine ⟨_, ctr_fn okf hg117 Tryz.func117 (by kernel_rfl) (by kernel_rfl) (by kernel_rfl) fun C => ?_, h⟩
    rw [e117]
    have ws : ∀ i, (wd t 46 i).size ≤ 1048576 := fun i => Nat.le_trans (wd_size t 46 i) hl
    refine br_t (by rw [decide_eq_true hl]; rfl) (br_bne (fun h1 => t3_f ?_) (fun h1 => ?_))
    · unfold t3A
      have : ¬ ((cutL t 46).length : Int) = 3 := beq_eq_false_iff_ne.1 h1
      rw [decide_eq_false this]
      rfl
    have hL : ((cutL t 46).length : Int) = 3 := eq_of_beq h1
    have hA : t3A t = allB 3 fun i => atK (wd t 46 i) := by
      unfold t3A
      rw [decide_eq_true hL, Bool.true_and]
    refine loopAll okf117 hg117 (fun i => st117 t i (tv t i.toNat 0) (tv t i.toNat 1) (tv t i.toNat 2)) 3 (fun i => atK (wd t 46 i)) (by omega) (fun N i hi hw next fails done => ?_)
    have cs : i = 0 ∨ i = 1 ∨ i = 2 ∨ i = 3 := by omega
    rcases cs with rfl | rfl | rfl | rfl
    · show evP E117 G117 _ (lp117 6) (st117 t 0 (tv t 0 0) (tv t 0 1) (tv t 0 2)) (rk117 _ _ 6 _)
      rw [b117_0]
      refine br_yes (by omega) (br_yes ⟨by omega, by omega⟩ (br_yes (ws 0) (br_intro (fun h2 => next (by omega) h2) (fun h2 => t3_f (hA.trans (fails (by omega) h2))))))
    · show evP E117 G117 _ (lp117 6) (st117 t 1 (tv t 1 0) (tv t 1 1) (tv t 1 2)) (rk117 _ _ 6 _)
      rw [b117_1]
      refine br_yes (by omega) (br_yes ⟨by omega, by omega⟩ (br_yes (ws 1) (br_intro (fun h2 => next (by omega) h2) (fun h2 => t3_f (hA.trans (fails (by omega) h2))))))
    · show evP E117 G117 _ (lp117 6) (st117 t 2 (tv t 2 0) (tv t 2 1) (tv t 2 2)) (rk117 _ _ 6 _)
      rw [b117_2]
      refine br_yes (by omega) (br_yes ⟨by omega, by omega⟩ (br_yes (ws 2) (br_intro (fun h2 => next (by omega) h2) (fun h2 => t3_f (hA.trans (fails (by omega) h2))))))
    · show evP E117 G117 _ (lp117 6) (st117 t 3 (tv t 3 0) (tv t 3 1) (tv t 3 2)) (rk117 _ _ 6 _)
      rw [b117_3]
      have hT : t3A t = true := hA.trans (done (by omega))
      refine br_no (by omega) (br_t (points_ok _ _ _ (atN_in _) (atN_in _) (atN_in _)) ?_)
      show _ = _
      rw [show joinT (decS [(tv t 3 0, ()), (tv t 3 1, ()), (tv t 3 2, ())]) ⟨#[46]⟩ = dec (atN (wd t 46 0)) ++ ⟨#[46]⟩ ++ dec (atN (wd t 46 1)) ++ ⟨#[46]⟩ ++ dec (atN (wd t 46 2)) from join3 _ _ _ _]
      unfold t3K t3V
      rw [hT, Bool.true_and]
      rfl
  · exact h.elim
noncomputable def G170 : Gk := gk [(117, g117), (121, g121)]
theorem hg170 : HG Tryz.prog G170 := (hg_cons h117 (hg_cons h121 hg_nil))
theorem e170 (L : Lp) (R : Option Res → Prop) (t : ByteArray) : (bodyP Ef G170 L Tryz.f170 [.val (.string t)] [] R) = (
    br (strEq t { data := #[45] }) (R (some { av := AV.tup [AV.agg [vI 0, vI 0, vI 0], vB true], obs := [], outs := [] })) (br (decide (t.size ≤ 1048576)) (br (!t3K t) (R (some { av := AV.tup [AV.agg [vI 0, vI 0, vI 0], vB false], obs := [], outs := [] })) (br (!realP (t3V t 0) (t3V t 1) (t3V t 2)) (R (some { av := AV.tup [AV.agg [vI 0, vI 0, vI 0], vB false], obs := [], outs := [] })) (R (some { av := AV.tup [AV.agg [vI (t3V t 0), vI (t3V t 1), vI (t3V t 2)], vB true], obs := [], outs := [] })))) False)) := by kernel_rfl
theorem h170 : G1Ok Tryz.prog 170 g162 := by
  intro args obs k h
  unfold g162 at h
  split at h
  · rename_i k t
    obtain ⟨hl, h⟩ := brd h
    refine ⟨_, ctr_fn okf hg170 Tryz.func170 (by kernel_rfl) (by kernel_rfl) (by kernel_rfl) fun C => ?_, h⟩
    rw [e170]
    refine br_intro (fun h0 => res_d h0) (fun h0 => br_yes hl ?_)
    have h0 : isD t = false := h0
    obtain ⟨r1, r2⟩ := rd_eq h0
    refine br_not (fun h1 => res_f h0 ?_) (fun h1 => br_not (fun h2 => res_f h0 ?_) (fun h2 => ?_))
    · rw [← r1, h1]
      rfl
    · rw [← r1, h2, Bool.and_false]
    · have hp : p3K t = true := by rw [← r1, h1, h2]; rfl
      show _ = _
      rw [prV_t h0 hp, prV_t h0 hp, prV_t h0 hp, prK_n h0, hp, r2 hp 0 (by omega), r2 hp 1 (by omega), r2 hp 2 (by omega)]
  · exact h.elim
end Go.Proofs.YtkjnijddbiconaaGreatDoor.Ev
