/- The law of CoreUberRead. -/
import Derived.Test.YtljilcingbohkabDoorW3
import Derived.Test.YtljilcingbohkabDoorD2
import Derived.Test.YtljilcingbohkabDoorD4
namespace Go.Proofs.YtljilcingbohkabDoor.Ev
open Go
set_option linter.unusedVariables false
set_option linter.unusedSimpArgs false
set_option maxRecDepth 100000
set_option maxHeartbeats 1000000
def uw (t : ByteArray) (j : Nat) : ByteArray := wd (opnT t) 32 j
def ubK (t : ByteArray) : Bool := opnK t && (decide (((cutL (opnT t) 32).length : Int) = 3) && strEq (uberT (numN (uw t 0)) (prV (uw t 1) 0) (prV (uw t 1) 1) (prV (uw t 1) 2)) t)
def ubN (t : ByteArray) : Int := match ubK t with
  | true => numN (uw t 0)
  | false => 0
def ubV (t : ByteArray) (j : Nat) : Int := match ubK t with
  | true => prV (uw t 1) j
  | false => 0
def g41 : G1
  | [.val (.string t)], [], k => br (decide (t.size ≤ 1048576)) (k ⟨.tup [.val (.int .i64 (ubN t)), .agg [.val (.int .i64 (ubV t 0)), .val (.int .i64 (ubV t 1)), .val (.int .i64 (ubV t 2))], .val (.bool (ubK t))], [], []⟩) False
  | _, _, _ => False
theorem seal_list {b : ByteArray} (h : b.size ≤ 400) : (sealT b).data.toList = (dec (sumN b)).data.toList ++ 58 :: b.data.toList := by
  unfold sealT
  rw [decide_eq_false (show ¬ (b.size : Int) > 400 by omega)]
  simp only [ByteArray.data_append, Array.toList_append]
  simp
theorem opn_seal {b : ByteArray} (h : b.size ≤ 400) : opnK (sealT b) = true ∧ opnT (sealT b) = b := by
  have hs := sumN_lt b
  have hL := seal_list h
  generalize hm : (dec (sumN b)).data.toList = D at hL
  have hsz : (sealT b).size = D.length + 1 + b.size := by
    have e : (sealT b).size = (sealT b).data.toList.length := rfl
    rw [e, hL, List.length_append, List.length_cons]
    have e2 : b.size = b.data.toList.length := rfl
    omega
  have hdig : ∀ x ∈ D, 48 ≤ x.toNat ∧ x.toNat ≤ 57 := by
    rw [← hm, dec_data hs.1]
    exact decD_dig _
  have hix : ixB (sealT b) 58 = (D.length : Int) := by
    unfold ixB
    refine fIx_at (fun j hj => ?_) (by omega) ?_
    · rw [byteAt_l _ (by omega)]
      simp only [hL]
      rw [List.getElem_append_left hj]
      have := hdig _ (List.getElem_mem hj)
      exact beq_eq_false_iff_ne.2 (by omega)
    · rw [byteAt_l _ (by omega)]
      simp only [hL]
      rw [List.getElem_append_right (Nat.le_refl _)]
      try simp
  have hz : cutZ (sealT b) 58 = b := by
    unfold cutZ
    rw [hix, decide_eq_true (show (0 : Int) ≤ (D.length : Int) by omega)]
    apply ByteArray.ext
    apply Array.ext'
    have e : ((sealT b).extract ((D.length : Int).toNat + 1) (sealT b).size).data.toList = ((sealT b).data.toList.drop ((D.length : Int).toNat + 1)).take ((sealT b).size - ((D.length : Int).toNat + 1)) := by
      rw [ByteArray.data_extract, Array.toList_extract]
    show ((sealT b).extract ((D.length : Int).toNat + 1) (sealT b).size).data.toList = b.data.toList
    rw [e, hL, Int.toNat_natCast, ← List.drop_drop, List.drop_left, List.drop_succ_cons, List.drop_zero, List.take_of_length_le]
    rw [hsz]
    have e2 : b.size = b.data.toList.length := rfl
    omega
  have hK : opnK (sealT b) = true := by
    unfold opnK
    rw [hz, hix, decide_eq_true (show (0 : Int) ≤ (D.length : Int) by omega), strEq_self]
    rfl
  refine ⟨hK, ?_⟩
  unfold opnT
  rw [hK]
  exact hz
theorem pts3_min (a b c : Int) : 2 ≤ (pts3 a b c).size := by
  have c1 : (⟨#[46]⟩ : ByteArray).size = 1 := rfl
  unfold pts3
  simp only [ByteArray.size_append, c1]
  omega
theorem pts3_notD (a b c : Int) : isD (pts3 a b c) = false := by
  cases h : isD (pts3 a b c) with
  | false => rfl
  | true =>
    have h1 := strEq_iff.1 h
    have h2 := pts3_min a b c
    rw [h1] at h2
    exact absurd h2 (by decide)
/-- The text of a pointer is read as that pointer. -/
theorem pr_of {a b c : Int} (hr : realP a b c = true) : prK (pts3 a b c) = true ∧ prV (pts3 a b c) 0 = a ∧ prV (pts3 a b c) 1 = b ∧ prV (pts3 a b c) 2 = c := by
  obtain ⟨ra, rb, rc⟩ := real_ptr hr
  have ha : 0 ≤ a ∧ a < 1000000000000000 := ⟨ra.1, by omega⟩
  have hb : 0 ≤ b ∧ b < 1000000000000000 := ⟨rb.1, by omega⟩
  have hc : 0 ≤ c ∧ c < 1000000000000000 := ⟨rc.1, by omega⟩
  have hd := pts3_notD a b c
  obtain ⟨r1, _⟩ := rd_eq hd
  obtain ⟨k, v0, v1, v2⟩ := t3_of ha hb hc
  rw [k, v0, v1, v2, hr] at r1
  have hp : p3K (pts3 a b c) = true := r1.symm
  obtain ⟨⟨_, n0⟩, ⟨_, n1⟩, _, n2⟩ := num3 ha hb hc
  rw [prK_n hd, prV_t hd hp, prV_t hd hp, prV_t hd hp]
  exact ⟨hp, n0, n1, n2⟩
def ubB (n a b c : Int) : ByteArray := dec n ++ ⟨#[32]⟩ ++ pts3 a b c ++ ⟨#[32]⟩ ++ dec n
theorem uber_t {n a b c : Int} (h1 : 1 ≤ n) (h2 : n ≤ 1000000) (hr : realP a b c = true) : uberT n a b c = sealT (ubB n a b c) := by
  unfold uberT ubB
  rw [decide_eq_true h1, decide_eq_true h2, hr, ptrT_real hr]
  rfl
theorem uber_f {n a b c : Int} (h : (decide (1 ≤ n) && decide (n ≤ 1000000) && realP a b c) = false) : uberT n a b c = ByteArray.empty := by
  unfold uberT
  rw [h]
theorem ub_cut {n a b c : Int} (hn : 0 ≤ n) (ha : 0 ≤ a) (hb : 0 ≤ b) (hc : 0 ≤ c) : cutL (ubB n a b c) 32 = [(dec n, ()), (pts3 a b c, ()), (dec n, ())] := by
  refine cutL_of (ws := [dec n, pts3 a b c, dec n]) (by simp) (fun w hw => ?_) ?_
  · simp only [List.mem_cons, List.not_mem_nil, or_false] at hw
    have hp : (32 : UInt8) ∉ (pts3 a b c).data.toList := by
      have h1 := dec_free (c := 32) ha (by decide)
      have h2 := dec_free (c := 32) hb (by decide)
      have h3 := dec_free (c := 32) hc (by decide)
      unfold pts3
      simp only [ByteArray.data_append, Array.toList_append, List.mem_append, not_or]
      refine ⟨⟨⟨⟨h1, ?_⟩, h2⟩, ?_⟩, h3⟩ <;> decide
    rcases hw with rfl | rfl | rfl
    · exact dec_free hn (by decide)
    · exact hp
    · exact dec_free hn (by decide)
  · unfold ubB
    simp only [ByteArray.data_append, Array.toList_append, List.map_cons, List.map_nil, joinW]
    simp
/-- What a commit's text comes to. -/
theorem ub_key {n a b c : Int} (h1 : 1 ≤ n) (h2 : n ≤ 1000000) (hr : realP a b c = true) :
    let t := uberT n a b c
    (opnK t = true ∧ ((cutL (opnT t) 32).length : Int) = 3) ∧ (numN (uw t 0) = n ∧ atK (uw t 0) = true ∧ atN (uw t 0) = n) ∧ prK (uw t 1) = true ∧ prV (uw t 1) 0 = a ∧ prV (uw t 1) 1 = b ∧ prV (uw t 1) 2 = c := by
  intro t
  obtain ⟨ra, rb, rc⟩ := real_ptr hr
  have hsz : (ubB n a b c).size ≤ 400 := by
    have e1 := dec_szk (n := n) (by omega) 6 (by have : (10 : Nat) ^ (6 + 1) = 10000000 := by decide
                                                 omega)
    have e2 := pts3_size ra rb rc
    have c1 : (⟨#[32]⟩ : ByteArray).size = 1 := rfl
    unfold ubB
    simp only [ByteArray.size_append, c1]
    omega
  have ht : t = sealT (ubB n a b c) := uber_t h1 h2 hr
  obtain ⟨o1, o2⟩ := opn_seal hsz
  have hc := ub_cut (n := n) (by omega) ra.1 rb.1 rc.1
  have w0 : uw t 0 = dec n := by
    unfold uw wd at1
    rw [ht, o2, hc]
    rfl
  have w1 : uw t 1 = pts3 a b c := by
    unfold uw wd at1
    rw [ht, o2, hc]
    rfl
  obtain ⟨_, n0⟩ := num_dec (n := n) (by omega) (by omega)
  obtain ⟨k0, v0⟩ := at_dec (n := n) (by omega) (by omega)
  rw [w0, w1]
  refine ⟨⟨by rw [ht]; exact o1, ?_⟩, ⟨n0, k0, v0⟩, pr_of hr⟩
  rw [ht, o2, hc]
  rfl
def ubI (t : ByteArray) : Bool := decide (((cutL (opnT t) 32).length : Int) = 3) && (atK (uw t 0) && (prK (uw t 1) && strEq (uberT (atN (uw t 0)) (prV (uw t 1) 0) (prV (uw t 1) 1) (prV (uw t 1) 2)) t))
theorem opnT_empty : (cutL (opnT ByteArray.empty) 32).length = 1 := rfl
theorem ub_valid {t : ByteArray} {n a b c : Int} (hL : ((cutL (opnT t) 32).length : Int) = 3) (h : uberT n a b c = t) : (1 ≤ n ∧ n ≤ 1000000) ∧ realP a b c = true := by
  cases hv : decide (1 ≤ n) && decide (n ≤ 1000000) && realP a b c with
  | true =>
    simp only [Bool.and_eq_true, decide_eq_true_eq] at hv
    exact hv
  | false =>
    rw [uber_f hv] at h
    rw [← h, opnT_empty] at hL
    exact absurd hL (by decide)
theorem ub_eq (t : ByteArray) : ubI t = ubK t ∧ (ubK t = true → atN (uw t 0) = numN (uw t 0)) := by
  have f1 : ubI t = true → ubK t = true ∧ atN (uw t 0) = numN (uw t 0) := by
    intro h
    unfold ubI at h
    simp only [Bool.and_eq_true, decide_eq_true_eq] at h
    obtain ⟨hL, _, _, he⟩ := h
    have he := strEq_iff.1 he
    generalize atN (uw t 0) = n at he ⊢
    generalize prV (uw t 1) 0 = a at he
    generalize prV (uw t 1) 1 = b at he
    generalize prV (uw t 1) 2 = c at he
    obtain ⟨⟨h1, h2⟩, hr⟩ := ub_valid hL he
    obtain ⟨⟨o, l⟩, ⟨n0, _, _⟩, _, p0, p1, p2⟩ := ub_key h1 h2 hr
    rw [he] at o l n0 p0 p1 p2
    refine ⟨?_, n0.symm⟩
    unfold ubK
    rw [o, n0, p0, p1, p2, he, strEq_self, decide_eq_true l]
    rfl
  have f2 : ubK t = true → ubI t = true := by
    intro h
    unfold ubK at h
    simp only [Bool.and_eq_true, decide_eq_true_eq] at h
    obtain ⟨_, hL, he⟩ := h
    have he := strEq_iff.1 he
    generalize numN (uw t 0) = n at he
    generalize prV (uw t 1) 0 = a at he
    generalize prV (uw t 1) 1 = b at he
    generalize prV (uw t 1) 2 = c at he
    obtain ⟨⟨h1, h2⟩, hr⟩ := ub_valid hL he
    obtain ⟨⟨o, l⟩, ⟨_, k0, v0⟩, kp, p0, p1, p2⟩ := ub_key h1 h2 hr
    rw [he] at o l k0 v0 kp p0 p1 p2
    unfold ubI
    rw [k0, kp, v0, p0, p1, p2, he, strEq_self, decide_eq_true l]
    rfl
  constructor
  · cases hI : ubI t with
    | true => rw [(f1 hI).1]
    | false =>
      cases hK : ubK t with
      | false => rfl
      | true => rw [f2 hK] at hI; cases hI
  · intro h
    exact (f1 (f2 h)).2
theorem ub_f {t : ByteArray} (h : ubK t = false) : (some ⟨.tup [vI 0, .agg [vI 0, vI 0, vI 0], vB false], [], []⟩ : Option Res) = some ⟨.tup [.val (.int .i64 (ubN t)), .agg [.val (.int .i64 (ubV t 0)), .val (.int .i64 (ubV t 1)), .val (.int .i64 (ubV t 2))], .val (.bool (ubK t))], [], []⟩ := by
  unfold ubN ubV
  rw [h]
theorem ub_t {t : ByteArray} (h : ubK t = true) : (some ⟨.tup [vI (numN (uw t 0)), .agg [vI (prV (uw t 1) 0), vI (prV (uw t 1) 1), vI (prV (uw t 1) 2)], vB true], [], []⟩ : Option Res) = some ⟨.tup [.val (.int .i64 (ubN t)), .agg [.val (.int .i64 (ubV t 0)), .val (.int .i64 (ubV t 1)), .val (.int .i64 (ubV t 2))], .val (.bool (ubK t))], [], []⟩ := by
  unfold ubN ubV
  rw [h]
theorem opnT_size (t : ByteArray) : (opnT t).size ≤ t.size := by
  unfold opnT
  split
  · exact cutZ_size t 58
  · exact Nat.zero_le _
noncomputable def E41 : Env := Ef.of Tryd.f41
noncomputable def G41 : Gk := gk [(98, g98), (77, g77), (78, g78), (19, g19), (99, g99)]
noncomputable def lp41 (n : Nat) : Code := (loopOf n (codeOf Tryd.f41)).getD .skip
noncomputable def ct41 (L : Lp) (R : Option Res → Prop) (n : Nat) : Kt := contOf E41 G41 L n (codeOf Tryd.f41) (endK E41 Tryd.f41.results.toList R)
noncomputable def rk41 (L : Lp) (R : Option Res → Prop) (n : Nat) (N : St → Prop) : Kt := rk (jof E41 (lp41 n)) N (ct41 L R n)
noncomputable def rkn41 (L : Lp) (R : Option Res → Prop) (n : Nat) (N : St → Prop) (m : Nat) (N2 : St → Prop) : Kt := rk (jof E41 (lp41 m)) N2 (contOf E41 G41 L m (lp41 n) (rk41 L R n N))
noncomputable def LOOPN41 (L : Lp) (R : Option Res → Prop) (n : Nat) (N : St → Prop) (m : Nat) (st : St) : Prop := L (lp41 m) st (contOf E41 G41 L m (lp41 n) (rk41 L R n N))
noncomputable def LOOP41 (L : Lp) (R : Option Res → Prop) (n : Nat) (st : St) : Prop := L (lp41 n) st (ct41 L R n)
theorem hg41 : HG Tryd.prog G41 := (hg_cons h98 (hg_cons h77 (hg_cons h78 (hg_cons h19 (hg_cons h99 hg_nil)))))
theorem okf41 : Ok Tryd.prog E41 := okf.of Tryd.f41
theorem e41 (L : Lp) (R : Option Res → Prop) (t : ByteArray) : (bodyP Ef G41 L Tryd.f41 [.val (.string t)] [] R) = (
    br (decide (t.size ≤ 1048576)) (br (decide ((opnT t).size ≤ 1048576) && true) (br (!opnK t) (R (some { av := AV.tup [vI 0, AV.agg [vI 0, vI 0, vI 0], vB false], obs := [], outs := [] })) (br ((↑(cutL (opnT t) 32).length : Int) != 3) (R (some { av := AV.tup [vI 0, AV.agg [vI 0, vI 0, vI 0], vB false], obs := [], outs := [] })) (br (decide ((0 : Int) ≤ 0 ∧ 0 < (↑(cutL (opnT t) 32).length : Int))) (br (decide (ByteArray.size ((cutL (opnT t) 32).getD 0 (edflt ks)).fst ≤ 1048576)) (br (decide ((0 : Int) ≤ 1 ∧ 1 < (↑(cutL (opnT t) 32).length : Int))) (br (decide (ByteArray.size ((cutL (opnT t) 32).getD 1 (edflt ks)).fst ≤ 1048576)) (br (!strEq (uberT (numN ((cutL (opnT t) 32).getD 0 (edflt ks)).fst) (prV ((cutL (opnT t) 32).getD 1 (edflt ks)).fst 0) (prV ((cutL (opnT t) 32).getD 1 (edflt ks)).fst 1) (prV ((cutL (opnT t) 32).getD 1 (edflt ks)).fst 2)) t) (R (some { av := AV.tup [vI 0, AV.agg [vI 0, vI 0, vI 0], vB false], obs := [], outs := [] })) (R (some { av := AV.tup [vI (numN ((cutL (opnT t) 32).getD 0 (edflt ks)).fst), AV.agg [vI (prV ((cutL (opnT t) 32).getD 1 (edflt ks)).fst 0), vI (prV ((cutL (opnT t) 32).getD 1 (edflt ks)).fst 1), vI (prV ((cutL (opnT t) 32).getD 1 (edflt ks)).fst 2)], vB true], obs := [], outs := [] }))) False) False) False) False))) False) False) := by kernel_rfl
theorem h41 : G1Ok Tryd.prog 41 g41 := by
  intro args obs k h
  unfold g41 at h
  split at h
  · rename_i k t
    obtain ⟨hl, h⟩ := brd h
    refine ⟨_, ctr_fn okf hg41 Tryd.func41 (by kernel_rfl) (by kernel_rfl) (by kernel_rfl) fun C => ?_, h⟩
    rw [e41]
    have hz : (opnT t).size ≤ 1048576 := Nat.le_trans (opnT_size t) hl
    have ws : ∀ i, (uw t i).size ≤ 1048576 := fun i => Nat.le_trans (wd_size _ 32 i) hz
    refine br_yes hl (br_t (by rw [decide_eq_true hz]; rfl) (br_not (fun h1 => ub_f ?_) (fun h1 => br_bne (fun h2 => ub_f ?_) (fun h2 => ?_))))
    · unfold ubK
      rw [h1]
      rfl
    · unfold ubK
      rw [decide_eq_false (show ¬ ((cutL (opnT t) 32).length : Int) = 3 from beq_eq_false_iff_ne.1 h2)]
      simp
    have hL : ((cutL (opnT t) 32).length : Int) = 3 := eq_of_beq h2
    have hK : ubK t = strEq (uberT (numN (uw t 0)) (prV (uw t 1) 0) (prV (uw t 1) 1) (prV (uw t 1) 2)) t := by
      unfold ubK
      rw [h1, decide_eq_true hL]
      rfl
    exact br_yes ⟨by omega, by omega⟩ (br_yes (ws 0) (br_yes ⟨by omega, by omega⟩ (br_yes (ws 1) (br_not (fun h3 => ub_f (hK.trans h3)) (fun h3 => ub_t (hK.trans h3))))))
  · exact h.elim
noncomputable def E42 : Env := Ef.of Tryd.f42
noncomputable def G42 : Gk := gk [(100, g98), (95, g95), (101, g101), (20, g19), (102, g99)]
noncomputable def lp42 (n : Nat) : Code := (loopOf n (codeOf Tryd.f42)).getD .skip
noncomputable def ct42 (L : Lp) (R : Option Res → Prop) (n : Nat) : Kt := contOf E42 G42 L n (codeOf Tryd.f42) (endK E42 Tryd.f42.results.toList R)
noncomputable def rk42 (L : Lp) (R : Option Res → Prop) (n : Nat) (N : St → Prop) : Kt := rk (jof E42 (lp42 n)) N (ct42 L R n)
noncomputable def rkn42 (L : Lp) (R : Option Res → Prop) (n : Nat) (N : St → Prop) (m : Nat) (N2 : St → Prop) : Kt := rk (jof E42 (lp42 m)) N2 (contOf E42 G42 L m (lp42 n) (rk42 L R n N))
noncomputable def LOOPN42 (L : Lp) (R : Option Res → Prop) (n : Nat) (N : St → Prop) (m : Nat) (st : St) : Prop := L (lp42 m) st (contOf E42 G42 L m (lp42 n) (rk42 L R n N))
noncomputable def LOOP42 (L : Lp) (R : Option Res → Prop) (n : Nat) (st : St) : Prop := L (lp42 n) st (ct42 L R n)
theorem hg42 : HG Tryd.prog G42 := (hg_cons h100 (hg_cons h95 (hg_cons h101 (hg_cons h20 (hg_cons h102 hg_nil)))))
theorem okf42 : Ok Tryd.prog E42 := okf.of Tryd.f42
theorem e42 (L : Lp) (R : Option Res → Prop) (t : ByteArray) : (bodyP Ef G42 L Tryd.f42 [.val (.string t)] [] R) = (
    br (decide (t.size ≤ 1048576)) (br (decide ((opnT t).size ≤ 1048576) && true) (br ((↑(cutL (opnT t) 32).length : Int) != 3) (R (some { av := AV.tup [vI 0, AV.agg [vI 0, vI 0, vI 0], vB false], obs := [], outs := [] })) (br (decide ((0 : Int) ≤ 0 ∧ 0 < (↑(cutL (opnT t) 32).length : Int))) (br (decide (ByteArray.size ((cutL (opnT t) 32).getD 0 (edflt ks)).fst ≤ 1048576)) (br (atK ((cutL (opnT t) 32).getD 0 (edflt ks)).fst) (br (decide ((0 : Int) ≤ 1 ∧ 1 < (↑(cutL (opnT t) 32).length : Int))) (br (decide (ByteArray.size ((cutL (opnT t) 32).getD 1 (edflt ks)).fst ≤ 1048576)) (br (!prK ((cutL (opnT t) 32).getD 1 (edflt ks)).fst) (R (some { av := AV.tup [vI 0, AV.agg [vI 0, vI 0, vI 0], vB false], obs := [], outs := [] })) (br (!strEq (uberT (atN ((cutL (opnT t) 32).getD 0 (edflt ks)).fst) (prV ((cutL (opnT t) 32).getD 1 (edflt ks)).fst 0) (prV ((cutL (opnT t) 32).getD 1 (edflt ks)).fst 1) (prV ((cutL (opnT t) 32).getD 1 (edflt ks)).fst 2)) t) (R (some { av := AV.tup [vI 0, AV.agg [vI 0, vI 0, vI 0], vB false], obs := [], outs := [] })) (R (some { av := AV.tup [vI (atN ((cutL (opnT t) 32).getD 0 (edflt ks)).fst), AV.agg [vI (prV ((cutL (opnT t) 32).getD 1 (edflt ks)).fst 0), vI (prV ((cutL (opnT t) 32).getD 1 (edflt ks)).fst 1), vI (prV ((cutL (opnT t) 32).getD 1 (edflt ks)).fst 2)], vB true], obs := [], outs := [] })))) False) False) (br (decide ((0 : Int) ≤ 1 ∧ 1 < (↑(cutL (opnT t) 32).length : Int))) (br (decide (ByteArray.size ((cutL (opnT t) 32).getD 1 (edflt ks)).fst ≤ 1048576)) (R (some { av := AV.tup [vI 0, AV.agg [vI 0, vI 0, vI 0], vB false], obs := [], outs := [] })) False) False)) False) False)) False) False) := by kernel_rfl
theorem h42 : G1Ok Tryd.prog 42 g41 := by
  intro args obs k h
  unfold g41 at h
  split at h
  · rename_i k t
    obtain ⟨hl, h⟩ := brd h
    refine ⟨_, ctr_fn okf hg42 Tryd.func42 (by kernel_rfl) (by kernel_rfl) (by kernel_rfl) fun C => ?_, h⟩
    rw [e42]
    have hz : (opnT t).size ≤ 1048576 := Nat.le_trans (opnT_size t) hl
    have ws : ∀ i, (uw t i).size ≤ 1048576 := fun i => Nat.le_trans (wd_size _ 32 i) hz
    obtain ⟨u1, u2⟩ := ub_eq t
    refine br_yes hl (br_t (by rw [decide_eq_true hz]; rfl) (br_bne (fun h2 => ub_f ?_) (fun h2 => ?_)))
    · rw [← u1]
      unfold ubI
      rw [decide_eq_false (show ¬ ((cutL (opnT t) 32).length : Int) = 3 from beq_eq_false_iff_ne.1 h2)]
      rfl
    have hL : ((cutL (opnT t) 32).length : Int) = 3 := eq_of_beq h2
    refine br_yes ⟨by omega, by omega⟩ (br_yes (ws 0) (br_intro (fun h3 => br_yes ⟨by omega, by omega⟩ (br_yes (ws 1) (br_not (fun h4 => ub_f ?_) (fun h4 => br_not (fun h5 => ub_f ?_) (fun h5 => ?_))))) (fun h3 => br_yes ⟨by omega, by omega⟩ (br_yes (ws 1) (ub_f ?_)))))
    · rw [← u1]
      unfold ubI
      rw [show prK (uw t 1) = false from h4]
      simp
    · rw [← u1]
      unfold ubI
      rw [show strEq (uberT (atN (uw t 0)) (prV (uw t 1) 0) (prV (uw t 1) 1) (prV (uw t 1) 2)) t = false from h5]
      simp
    · have hk : ubK t = true := by
        rw [← u1]
        unfold ubI
        rw [decide_eq_true hL, show atK (uw t 0) = true from h3, show prK (uw t 1) = true from h4, show strEq (uberT (atN (uw t 0)) (prV (uw t 1) 0) (prV (uw t 1) 1) (prV (uw t 1) 2)) t = true from h5]
        rfl
      show (some ⟨.tup [vI (atN (uw t 0)), .agg [vI (prV (uw t 1) 0), vI (prV (uw t 1) 1), vI (prV (uw t 1) 2)], vB true], [], []⟩ : Option Res) = _
      rw [u2 hk]
      exact ub_t hk
    · rw [← u1]
      unfold ubI
      rw [show atK (uw t 0) = false from h3]
      simp
  · exact h.elim
noncomputable def E10 : Env := Ef.of Tryd.f10
noncomputable def G10 : Gk := gk [(41, g41), (42, g41), (21, g21)]
noncomputable def lp10 (n : Nat) : Code := (loopOf n (codeOf Tryd.f10)).getD .skip
noncomputable def ct10 (L : Lp) (R : Option Res → Prop) (n : Nat) : Kt := contOf E10 G10 L n (codeOf Tryd.f10) (endK E10 Tryd.f10.results.toList R)
noncomputable def rk10 (L : Lp) (R : Option Res → Prop) (n : Nat) (N : St → Prop) : Kt := rk (jof E10 (lp10 n)) N (ct10 L R n)
noncomputable def rkn10 (L : Lp) (R : Option Res → Prop) (n : Nat) (N : St → Prop) (m : Nat) (N2 : St → Prop) : Kt := rk (jof E10 (lp10 m)) N2 (contOf E10 G10 L m (lp10 n) (rk10 L R n N))
noncomputable def LOOPN10 (L : Lp) (R : Option Res → Prop) (n : Nat) (N : St → Prop) (m : Nat) (st : St) : Prop := L (lp10 m) st (contOf E10 G10 L m (lp10 n) (rk10 L R n N))
noncomputable def LOOP10 (L : Lp) (R : Option Res → Prop) (n : Nat) (st : St) : Prop := L (lp10 n) st (ct10 L R n)
theorem hg10 : HG Tryd.prog G10 := (hg_cons h41 (hg_cons h42 (hg_cons h21 hg_nil)))
theorem okf10 : Ok Tryd.prog E10 := okf.of Tryd.f10
theorem e10 (L : Lp) (R : Option Res → Prop) (t : ByteArray) : (bodyP Ef G10 L Tryd.f10 [.val (.string t)] [] R) = (
    br (decide ((↑t.size : Int) > 1048576)) (R (some { av := vB true, obs := [], outs := [] })) (br (decide (t.size ≤ 1048576)) (br (decide (t.size ≤ 1048576)) (br (ubN t != ubN t) (R (some { av := vB false, obs := [], outs := [] })) (br (!elemEq k3 (ubV t 0, ubV t 1, ubV t 2, ()) (ubV t 0, ubV t 1, ubV t 2, ())) (R (some { av := vB false, obs := [], outs := [] })) (br (!ubK t == ubK t) (R (some { av := vB false, obs := [], outs := [] })) (R (some { av := vB true, obs := [], outs := [] }))))) False) False)) := by kernel_rfl
theorem c10 (t : ByteArray) : Ctr Tryd.prog 10 [.val (.string t)] [] ⟨.val (.bool true), [], []⟩ := by
  refine ctr_fn okf hg10 Tryd.func10 (by kernel_rfl) (by kernel_rfl) (by kernel_rfl) fun C => ?_
  rw [e10, elemEq3_self, bnot_self]
  refine br_dec (fun _ => rfl) (fun h1 => br_yes (by omega) (br_yes (by omega) (br_bne (fun h => ?_) (fun _ => rfl))))
  simp at h
end Go.Proofs.YtljilcingbohkabDoor.Ev
