/- The law of PtrRead. -/
import Derived.Test.YtkjnijddbiconaaGreatDoorW2T
import Derived.Test.YtkjnijddbiconaaGreatDoorD3T
import Derived.Lib.ItoaLen
namespace Go.Proofs.YtkjnijddbiconaaGreatDoor.Ev
open Go
set_option linter.unusedVariables false
set_option linter.unusedSimpArgs false
set_option maxRecDepth 100000
set_option maxHeartbeats 1000000
def wd (t : ByteArray) (c : Int) (i : Nat) : ByteArray := at1 (cutL t c) i
def t3A (t : ByteArray) : Bool := decide (((cutL t 46).length : Int) = 3) && allB 3 fun i => atK (wd t 46 i)
def t3V (t : ByteArray) (j : Nat) : Int := match t3A t with
  | true => atN (wd t 46 j)
  | false => 0
def t3K (t : ByteArray) : Bool := t3A t && strEq (dec (atN (wd t 46 0)) ++ ⟨#[46]⟩ ++ dec (atN (wd t 46 1)) ++ ⟨#[46]⟩ ++ dec (atN (wd t 46 2))) t
def g117 : G1
  | [.val (.string t)], [], k => br (decide (t.size ≤ 1048576)) (k ⟨.tup [.val (.int .i64 (t3V t 0)), .val (.int .i64 (t3V t 1)), .val (.int .i64 (t3V t 2)), .val (.bool (t3K t))], [], []⟩) False
  | _, _, _ => False
theorem splitW_wlen (c : UInt8) : ∀ l, ∀ w ∈ splitW c l, w.length ≤ l.length
  | [], w, h => by simp [splitW] at h; simp [h]
  | b :: l, w, h => by
    have ih := splitW_wlen c l
    unfold splitW at h
    split at h
    · rcases List.mem_cons.1 h with rfl | h
      · simp
      · have := ih w h
        simp only [List.length_cons]
        omega
    · cases hs : splitW c l with
      | nil => exact absurd hs (splitW_ne c l)
      | cons v vs =>
        rw [hs] at h ih
        rcases List.mem_cons.1 h with rfl | h
        · have := ih v (by simp)
          simp only [List.length_cons, List.cons_append, List.nil_append]
          omega
        · have := ih w (by simp [h])
          simp only [List.length_cons]
          omega
theorem cutL_size (s : ByteArray) (c : Int) : ∀ e ∈ cutL s c, e.1.size ≤ s.size := by
  intro e he
  unfold cutL at he
  obtain ⟨w, hw, rfl⟩ := List.mem_map.1 he
  exact splitW_wlen _ _ w hw
theorem wd_size (s : ByteArray) (c : Int) (i : Nat) : (wd s c i).size ≤ s.size := by
  unfold wd at1
  by_cases h : i < (cutL s c).length
  · exact cutL_size s c _ (getD_mem _ h)
  · rw [List.getD_eq_getElem?_getD, List.getElem?_eq_none (by omega)]
    exact Nat.zero_le _
def pts3 (a b c : Int) : ByteArray := dec a ++ ⟨#[46]⟩ ++ dec b ++ ⟨#[46]⟩ ++ dec c
theorem cutL_of {s : ByteArray} {c : Int} {ws : List ByteArray} (h0 : ws ≠ []) (hf : ∀ w ∈ ws, UInt8.ofNat c.toNat ∉ w.data.toList) (h : s.data.toList = joinW (UInt8.ofNat c.toNat) (ws.map fun w => w.data.toList)) : cutL s c = ws.map fun w => (w, ()) := by
  unfold cutL
  rw [h, splitW_join _ _ (by simpa using h0) (fun w hw => by obtain ⟨v, hv, rfl⟩ := List.mem_map.1 hw; exact hf v hv), List.map_map]
  exact List.map_congr_left fun w _ => by obtain ⟨⟨l⟩⟩ := w; rfl
theorem cut3 {a b c : Int} (ha : 0 ≤ a) (hb : 0 ≤ b) (hc : 0 ≤ c) : cutL (pts3 a b c) 46 = [(dec a, ()), (dec b, ()), (dec c, ())] := by
  refine cutL_of (ws := [dec a, dec b, dec c]) (by simp) (fun w hw => ?_) ?_
  · simp only [List.mem_cons, List.not_mem_nil, or_false] at hw
    rcases hw with rfl | rfl | rfl
    · exact dec_free ha (by decide)
    · exact dec_free hb (by decide)
    · exact dec_free hc (by decide)
  · unfold pts3
    simp only [ByteArray.data_append, Array.toList_append, List.map_cons, List.map_nil, joinW]
    simp
theorem wd3 {a b c : Int} (ha : 0 ≤ a) (hb : 0 ≤ b) (hc : 0 ≤ c) : wd (pts3 a b c) 46 0 = dec a ∧ wd (pts3 a b c) 46 1 = dec b ∧ wd (pts3 a b c) 46 2 = dec c := by
  unfold wd at1
  rw [cut3 ha hb hc]
  exact ⟨rfl, rfl, rfl⟩
/-- A text of three numbers. -/
theorem t3_of {a b c : Int} (ha : 0 ≤ a ∧ a < 1000000000000000) (hb : 0 ≤ b ∧ b < 1000000000000000) (hc : 0 ≤ c ∧ c < 1000000000000000) :
    t3K (pts3 a b c) = true ∧ t3V (pts3 a b c) 0 = a ∧ t3V (pts3 a b c) 1 = b ∧ t3V (pts3 a b c) 2 = c := by
  obtain ⟨w0, w1, w2⟩ := wd3 ha.1 hb.1 hc.1
  obtain ⟨k0, n0⟩ := at_dec ha.1 ha.2
  obtain ⟨k1, n1⟩ := at_dec hb.1 hb.2
  obtain ⟨k2, n2⟩ := at_dec hc.1 hc.2
  have hl : ((cutL (pts3 a b c) 46).length : Int) = 3 := by rw [cut3 ha.1 hb.1 hc.1]; rfl
  have hA : t3A (pts3 a b c) = true := by
    unfold t3A
    rw [decide_eq_true hl, Bool.true_and]
    refine allB_t fun i hi => ?_
    have : i = 0 ∨ i = 1 ∨ i = 2 := by omega
    rcases this with rfl | rfl | rfl
    · rw [w0]; exact k0
    · rw [w1]; exact k1
    · rw [w2]; exact k2
  unfold t3K t3V
  rw [hA, w0, w1, w2, n0, n1, n2]
  refine ⟨?_, rfl, rfl, rfl⟩
  rw [Bool.true_and]
  exact strEq_self _
theorem t3K_inv {t : ByteArray} (h : t3K t = true) : t3A t = true ∧ t = pts3 (t3V t 0) (t3V t 1) (t3V t 2) := by
  unfold t3K at h
  rw [Bool.and_eq_true] at h
  refine ⟨h.1, ?_⟩
  unfold t3V
  rw [h.1]
  exact (strEq_iff.1 h.2).symm
theorem num3 {a b c : Int} (ha : 0 ≤ a ∧ a < 1000000000000000) (hb : 0 ≤ b ∧ b < 1000000000000000) (hc : 0 ≤ c ∧ c < 1000000000000000) :
    (numK (wd (pts3 a b c) 46 0) = true ∧ numN (wd (pts3 a b c) 46 0) = a) ∧ (numK (wd (pts3 a b c) 46 1) = true ∧ numN (wd (pts3 a b c) 46 1) = b) ∧ (numK (wd (pts3 a b c) 46 2) = true ∧ numN (wd (pts3 a b c) 46 2) = c) := by
  obtain ⟨w0, w1, w2⟩ := wd3 ha.1 hb.1 hc.1
  rw [w0, w1, w2]
  exact ⟨num_dec ha.1 ha.2, num_dec hb.1 hb.2, num_dec hc.1 hc.2⟩
noncomputable def E117 : Env := Ef.of Tryz.f117
noncomputable def G117 : Gk := gk [(97, g97), (171, g171), (118, g118)]
noncomputable def lp117 (n : Nat) : Code := (loopOf n (codeOf Tryz.f117)).getD .skip
noncomputable def ct117 (L : Lp) (R : Option Res → Prop) (n : Nat) : Kt := contOf E117 G117 L n (codeOf Tryz.f117) (endK E117 Tryz.f117.results.toList R)
noncomputable def rk117 (L : Lp) (R : Option Res → Prop) (n : Nat) (N : St → Prop) : Kt := rk (jof E117 (lp117 n)) N (ct117 L R n)
noncomputable def LOOP117 (L : Lp) (R : Option Res → Prop) (n : Nat) (st : St) : Prop := L (lp117 n) st (ct117 L R n)
theorem hg117 : HG Tryz.prog G117 := (hg_cons h97 (hg_cons h171 (hg_cons h118 hg_nil)))
theorem okf117 : Ok Tryz.prog E117 := okf.of Tryz.f117
theorem e117 (L : Lp) (R : Option Res → Prop) (t : ByteArray) : (bodyP Ef G117 L Tryz.f117 [.val (.string t)] [] R) = (
    br (decide (t.size ≤ 1048576) && true) (br ((↑(cutL t 46).length : Int) != 3) (R (some { av := AV.tup [vI 0, vI 0, vI 0, vB false], obs := [], outs := [] })) (LOOP117 L R 6 { tm := [vS t, vJ, vJ, vJ, vJ, vJ, vJ, AV.ptr 0 0, vJ, vJ, vJ, vJ, vJ, vJ, vJ, vJ, vJ, AV.ows 1, vI (↑(cutL t 46).length : Int), vI 0, vJ, vJ, vJ, vJ, vJ, vJ, vJ, vJ, vJ, vJ, vJ, vJ, vJ, vJ, vJ, vJ, vJ, vJ, vJ, vJ, vJ, vJ, vJ, vJ, vJ, vJ, vJ, vJ, vJ, vJ, vJ], ob := [(0, AO.box [vI 0, vI 0, vI 0]), (1, AO.row ks (cutL t 46))], nx := 1000000, ps := [] })) False) := by kernel_rfl
def st117 (t : ByteArray) (i a b c : Int) : St :=  ⟨[vS t, vJ, vJ, vJ, vJ, vJ, vJ, AV.ptr 0 0, vJ, vJ, vJ, vJ, vJ, vJ, vJ, vJ, vJ, AV.ows 1, vI (↑(cutL t 46).length : Int), .val (.int .i64 i), vJ, vJ, vJ, vJ, vJ, vJ, vJ, vJ, vJ, vJ, vJ, vJ, vJ, vJ, vJ, vJ, vJ, vJ, vJ, vJ, vJ, vJ, vJ, vJ, vJ, vJ, vJ, vJ, vJ, vJ, vJ], [(0, .box [.val (.int .i64 a), .val (.int .i64 b), .val (.int .i64 c)]), (1, AO.row ks (cutL t 46))], 1000000, []⟩
theorem b117_0 (L : Lp) (R : Option Res → Prop) (N : St → Prop) (t : ByteArray) (a b c : Int) : (evP E117 G117 L (lp117 6) (st117 t 0 a b c) (rk117 L R 6 N)) = (
    br (decide (0 < (↑(cutL t 46).length : Int))) (br (decide ((0 : Int) ≤ 0 ∧ 0 < (↑(cutL t 46).length : Int))) (br (decide (ByteArray.size ((cutL t 46).getD 0 (edflt ks)).fst ≤ 1048576)) (br (atK ((cutL t 46).getD 0 (edflt ks)).fst) (N { tm := [vS t, vJ, vJ, vJ, vJ, vJ, vJ, AV.ptr 0 0, vJ, vJ, vJ, vJ, vJ, vJ, vJ, vJ, vJ, AV.ows 1, vI (↑(cutL t 46).length : Int), vI 1, vJ, vJ, vJ, vJ, vJ, vJ, vJ, vJ, vJ, vJ, vJ, vJ, vJ, vJ, vJ, vJ, vJ, vJ, vJ, vJ, vJ, vJ, vJ, vJ, vJ, vJ, vJ, vJ, vJ, vJ, vJ], ob := [(0, AO.box [vI (atN ((cutL t 46).getD 0 (edflt ks)).fst), vI b, vI c]), (1, AO.row ks (cutL t 46))], nx := 1000000, ps := [] }) (R (some { av := AV.tup [vI 0, vI 0, vI 0, vB false], obs := [], outs := [] }))) False) False) (br (allN [(a, ()), (b, ()), (c, ())] && (decide ([(a, ()), (b, ()), (c, ())].length ≤ 1048576) && decide ((joinT (decS [(a, ()), (b, ()), (c, ())]) { data := #[46] }).size ≤ 1099511627776))) (R (some { av := AV.tup [vI a, vI b, vI c, vB (strEq (joinT (decS [(a, ()), (b, ()), (c, ())]) { data := #[46] }) t)], obs := [], outs := [] })) False)) := by kernel_rfl
theorem b117_1 (L : Lp) (R : Option Res → Prop) (N : St → Prop) (t : ByteArray) (a b c : Int) : (evP E117 G117 L (lp117 6) (st117 t 1 a b c) (rk117 L R 6 N)) = (
    br (decide (1 < (↑(cutL t 46).length : Int))) (br (decide ((0 : Int) ≤ 1 ∧ 1 < (↑(cutL t 46).length : Int))) (br (decide (ByteArray.size ((cutL t 46).getD 1 (edflt ks)).fst ≤ 1048576)) (br (atK ((cutL t 46).getD 1 (edflt ks)).fst) (N { tm := [vS t, vJ, vJ, vJ, vJ, vJ, vJ, AV.ptr 0 0, vJ, vJ, vJ, vJ, vJ, vJ, vJ, vJ, vJ, AV.ows 1, vI (↑(cutL t 46).length : Int), vI 2, vJ, vJ, vJ, vJ, vJ, vJ, vJ, vJ, vJ, vJ, vJ, vJ, vJ, vJ, vJ, vJ, vJ, vJ, vJ, vJ, vJ, vJ, vJ, vJ, vJ, vJ, vJ, vJ, vJ, vJ, vJ], ob := [(0, AO.box [vI a, vI (atN ((cutL t 46).getD 1 (edflt ks)).fst), vI c]), (1, AO.row ks (cutL t 46))], nx := 1000000, ps := [] }) (R (some { av := AV.tup [vI 0, vI 0, vI 0, vB false], obs := [], outs := [] }))) False) False) (br (allN [(a, ()), (b, ()), (c, ())] && (decide ([(a, ()), (b, ()), (c, ())].length ≤ 1048576) && decide ((joinT (decS [(a, ()), (b, ()), (c, ())]) { data := #[46] }).size ≤ 1099511627776))) (R (some { av := AV.tup [vI a, vI b, vI c, vB (strEq (joinT (decS [(a, ()), (b, ()), (c, ())]) { data := #[46] }) t)], obs := [], outs := [] })) False)) := by kernel_rfl
theorem b117_2 (L : Lp) (R : Option Res → Prop) (N : St → Prop) (t : ByteArray) (a b c : Int) : (evP E117 G117 L (lp117 6) (st117 t 2 a b c) (rk117 L R 6 N)) = (
    br (decide (2 < (↑(cutL t 46).length : Int))) (br (decide ((0 : Int) ≤ 2 ∧ 2 < (↑(cutL t 46).length : Int))) (br (decide (ByteArray.size ((cutL t 46).getD 2 (edflt ks)).fst ≤ 1048576)) (br (atK ((cutL t 46).getD 2 (edflt ks)).fst) (N { tm := [vS t, vJ, vJ, vJ, vJ, vJ, vJ, AV.ptr 0 0, vJ, vJ, vJ, vJ, vJ, vJ, vJ, vJ, vJ, AV.ows 1, vI (↑(cutL t 46).length : Int), vI 3, vJ, vJ, vJ, vJ, vJ, vJ, vJ, vJ, vJ, vJ, vJ, vJ, vJ, vJ, vJ, vJ, vJ, vJ, vJ, vJ, vJ, vJ, vJ, vJ, vJ, vJ, vJ, vJ, vJ, vJ, vJ], ob := [(0, AO.box [vI a, vI b, vI (atN ((cutL t 46).getD 2 (edflt ks)).fst)]), (1, AO.row ks (cutL t 46))], nx := 1000000, ps := [] }) (R (some { av := AV.tup [vI 0, vI 0, vI 0, vB false], obs := [], outs := [] }))) False) False) (br (allN [(a, ()), (b, ()), (c, ())] && (decide ([(a, ()), (b, ()), (c, ())].length ≤ 1048576) && decide ((joinT (decS [(a, ()), (b, ()), (c, ())]) { data := #[46] }).size ≤ 1099511627776))) (R (some { av := AV.tup [vI a, vI b, vI c, vB (strEq (joinT (decS [(a, ()), (b, ()), (c, ())]) { data := #[46] }) t)], obs := [], outs := [] })) False)) := by kernel_rfl
theorem b117_3 (L : Lp) (R : Option Res → Prop) (N : St → Prop) (t : ByteArray) (a b c : Int) : (evP E117 G117 L (lp117 6) (st117 t 3 a b c) (rk117 L R 6 N)) = (
    br (decide (3 < (↑(cutL t 46).length : Int))) (br (decide ((0 : Int) ≤ 3 ∧ 3 < (↑(cutL t 46).length : Int))) (br (decide (ByteArray.size ((cutL t 46).getD 3 (edflt ks)).fst ≤ 1048576)) (br (atK ((cutL t 46).getD 3 (edflt ks)).fst) False (R (some { av := AV.tup [vI 0, vI 0, vI 0, vB false], obs := [], outs := [] }))) False) False) (br (allN [(a, ()), (b, ()), (c, ())] && (decide ([(a, ()), (b, ()), (c, ())].length ≤ 1048576) && decide ((joinT (decS [(a, ()), (b, ()), (c, ())]) { data := #[46] }).size ≤ 1099511627776))) (R (some { av := AV.tup [vI a, vI b, vI c, vB (strEq (joinT (decS [(a, ()), (b, ()), (c, ())]) { data := #[46] }) t)], obs := [], outs := [] })) False)) := by kernel_rfl
theorem atN_in (s : ByteArray) : inN (atN s) = true := by
  unfold atN
  split
  · rename_i v hv
    have := Lib.atoiAll_bounds hv
    exact inN_of this.1 this.2
  · have := Lib.atoiSat_bounds s.data.toList
    exact inN_of this.1 this.2
  · rfl
theorem dec_size_all {n : Int} (h : inN n = true) : (dec n).size ≤ 21 := by
  have h := of_decide_eq_true h
  have := Lib.itoa_length_le n h.1 h.2
  rw [dec_lib]
  exact this
theorem points_ok (a b c : Int) (ha : inN a = true) (hb : inN b = true) (hc : inN c = true) : (allN [(a, ()), (b, ()), (c, ())] && (decide ([(a, ()), (b, ()), (c, ())].length ≤ 1048576) && decide ((joinT (decS [(a, ()), (b, ()), (c, ())]) ⟨#[46]⟩).size ≤ 1099511627776))) = true := by
  have e : allN [(a, ()), (b, ()), (c, ())] = true := by
    show (inN a && (inN b && (inN c && true))) = true
    rw [ha, hb, hc]
    rfl
  have h1 := dec_size_all ha
  have h2 := dec_size_all hb
  have h3 := dec_size_all hc
  have e2 : joinT (decS [(a, ()), (b, ()), (c, ())]) ⟨#[46]⟩ = dec a ++ ⟨#[46]⟩ ++ dec b ++ ⟨#[46]⟩ ++ dec c := join3 _ _ _ _
  have c1 : (⟨#[46]⟩ : ByteArray).size = 1 := rfl
  rw [e, e2, Bool.true_and, Bool.and_eq_true, decide_eq_true_eq, decide_eq_true_eq]
  refine ⟨by show 3 ≤ _; omega, ?_⟩
  simp only [ByteArray.size_append, c1]
  omega
theorem t3_f {t : ByteArray} (h : t3A t = false) : (some ⟨.tup [vI 0, vI 0, vI 0, vB false], [], []⟩ : Option Res) = some ⟨.tup [.val (.int .i64 (t3V t 0)), .val (.int .i64 (t3V t 1)), .val (.int .i64 (t3V t 2)), .val (.bool (t3K t))], [], []⟩ := by
  unfold t3K t3V
  rw [h]
  rfl
def tv (t : ByteArray) (i j : Nat) : Int := if j < i then atN (wd t 46 j) else 0
theorem h117 : G1Ok Tryz.prog 117 g117 := by
  intro args obs k h
  unfold g117 at h
  split at h
  · rename_i k t
    obtain ⟨hl, h⟩ := brd h
    refine ⟨_, ctr_fn okf hg117 Tryz.func117 (by kernel_rfl) (by kernel_rfl) (by kernel_rfl) fun C => ?_, h⟩
    rw [e117]
    have ws : ∀ i, (wd t 46 i).size ≤ 1048576 := fun i => Nat.le_trans (wd_size t 46 i) hl
    refine br_t (by rw [decide_eq_true hl]; rfl) (br_bne (fun h1 => t3_f ?_) (fun h1 => ?_))
    · unfold t3A
      have : ¬ ((cutL t 46).length : Int) = 3 := beq_eq_false_iff_ne.1 h1
      rw [decide_eq_false this]
      rfl
    have hL : ((cutL t 46).length : Int) = 3 := eq_of_beq h1
    have hA : t3A t = allB 3 fun i => atK (wd t 46 i) := by
      unfold t3A
      rw [decide_eq_true hL, Bool.true_and]
    refine loopAll okf117 hg117 (fun i => st117 t i (tv t i.toNat 0) (tv t i.toNat 1) (tv t i.toNat 2)) 3 (fun i => atK (wd t 46 i)) (by omega) (fun N i hi hw next fails done => ?_)
    have cs : i = 0 ∨ i = 1 ∨ i = 2 ∨ i = 3 := by omega
    rcases cs with rfl | rfl | rfl | rfl
    · show evP E117 G117 _ (lp117 6) (st117 t 0 (tv t 0 0) (tv t 0 1) (tv t 0 2)) (rk117 _ _ 6 _)
      rw [b117_0]
      refine br_yes (by omega) (br_yes ⟨by omega, by omega⟩ (br_yes (ws 0) (br_intro (fun h2 => next (by omega) h2) (fun h2 => t3_f (hA.trans (fails (by omega) h2))))))
    · show evP E117 G117 _ (lp117 6) (st117 t 1 (tv t 1 0) (tv t 1 1) (tv t 1 2)) (rk117 _ _ 6 _)
      rw [b117_1]
      refine br_yes (by omega) (br_yes ⟨by omega, by omega⟩ (br_yes (ws 1) (br_intro (fun h2 => next (by omega) h2) (fun h2 => t3_f (hA.trans (fails (by omega) h2))))))
    · show evP E117 G117 _ (lp117 6) (st117 t 2 (tv t 2 0) (tv t 2 1) (tv t 2 2)) (rk117 _ _ 6 _)
      rw [b117_2]
      refine br_yes (by omega) (br_yes ⟨by omega, by omega⟩ (br_yes (ws 2) (br_intro (fun h2 => next (by omega) h2) (fun h2 => t3_f (hA.trans (fails (by omega) h2))))))
    · show evP E117 G117 _ (lp117 6) (st117 t 3 (tv t 3 0) (tv t 3 1) (tv t 3 2)) (rk117 _ _ 6 _)
      rw [b117_3]
      have hT : t3A t = true := hA.trans (done (by omega))
      refine br_no (by omega) (br_t (points_ok _ _ _ (atN_in _) (atN_in _) (atN_in _)) ?_)
      show _ = _
      rw [show joinT (decS [(tv t 3 0, ()), (tv t 3 1, ()), (tv t 3 2, ())]) ⟨#[46]⟩ = dec (atN (wd t 46 0)) ++ ⟨#[46]⟩ ++ dec (atN (wd t 46 1)) ++ ⟨#[46]⟩ ++ dec (atN (wd t 46 2)) from join3 _ _ _ _]
      unfold t3K t3V
      rw [hT, Bool.true_and]
      rfl
  · exact h.elim
end Go.Proofs.YtkjnijddbiconaaGreatDoor.Ev
