/- The law of LogRead. -/
import Derived.Test.YtljilcingbohkabDoorW6
import Derived.Test.YtljilcingbohkabDoorD10
import Derived.Test.YtljilcingbohkabDoorX1
namespace Go.Proofs.YtljilcingbohkabDoor.Ev
open Go
set_option linter.unusedVariables false
set_option linter.unusedSimpArgs false
set_option maxRecDepth 100000
set_option maxHeartbeats 1000000
def lw (t : ByteArray) (j : Nat) : ByteArray := wd (opnT t) 32 j
def lm (t : ByteArray) (j : Nat) : ByteArray := wd (lw t 0) 46 j
def hxO (t : ByteArray) : ByteArray := match isD (lw t 3) with
  | true => ⟨#[]⟩
  | false => unhR (lw t 3)
def lrK (t : ByteArray) : Bool := opnK t && (decide (((cutL (opnT t) 32).length : Int) = 5) && (decide (((cutL (lw t 0) 46).length : Int) = 2) && strEq (logT (numN (lm t 0)) (numN (lm t 1)) 3 (lw t 1) ⟨#[]⟩ (numN (lw t 2)) (hxO t)) t))
def lrX (t : ByteArray) : Int := match lrK t with
  | true => numN (lm t 0)
  | false => 0
def lrQ (t : ByteArray) : Int := match lrK t with
  | true => numN (lm t 1)
  | false => 0
def lrN (t : ByteArray) : Int := match lrK t with
  | true => 3
  | false => 0
def lrA (t : ByteArray) : ByteArray := match lrK t with
  | true => lw t 1
  | false => ⟨#[]⟩
def lrI (t : ByteArray) : Int := match lrK t with
  | true => numN (lw t 2)
  | false => 0
def lrT (t : ByteArray) : ByteArray := match lrK t with
  | true => hxO t
  | false => ⟨#[]⟩
def g43 : G1
  | [.val (.string t)], [], k => br (decide (t.size ≤ 1048576)) (k ⟨.tup [lgA (lrX t) (lrQ t) (lrN t) (lrA t) ⟨#[]⟩ (lrI t) (lrT t), .val (.bool (lrK t))], [], []⟩) False
  | _, _, _ => False
theorem hexX_at (t : ByteArray) : ∀ (n i : Nat), i < n → (hexX t n)[2 * i]? = some (byteAt hexD (byteAt t i / 16), ()) ∧ (hexX t n)[2 * i + 1]? = some (byteAt hexD (byteAt t i % 16), ())
  | 0, i, h => by omega
  | n + 1, i, h => by
    rw [hexX_next]
    by_cases e : i < n
    · have ih := hexX_at t n i e
      have hl := hexX_len t n
      rw [List.getElem?_append_left (by omega), List.getElem?_append_left (by omega)]
      exact ih
    · have e : i = n := by omega
      subst e
      have hl := hexX_len t i
      rw [List.getElem?_append_right (by omega), List.getElem?_append_right (by omega), hl, Nat.sub_self, show 2 * i + 1 - 2 * i = 1 from by omega]
      exact ⟨rfl, rfl⟩
theorem hexD_lt (n : Int) : 0 ≤ byteAt hexD n ∧ byteAt hexD n ≤ 255 := byteAt_lt hexD n
theorem byteAt_strOf (xs : List (Elem ku)) {j : Nat} {b : Int} (h : xs[j]? = some (b, ())) (h0 : 0 ≤ b) (h1 : b ≤ 255) : byteAt (strOf xs) j = b := by
  have hj : j < xs.length := (List.getElem?_eq_some_iff.1 h).1
  have hs := strOf_size xs
  rw [byteAt_l _ (by omega)]
  have e : (strOf xs).data.toList = xs.map fun e => UInt8.ofNat (e.1 : Int).toNat := by
    unfold strOf
    simp
  have e2 : (strOf xs).data.toList[j]? = some (UInt8.ofNat b.toNat) := by
    rw [e, List.getElem?_map, h]
    rfl
  obtain ⟨hj2, e3⟩ := List.getElem?_eq_some_iff.1 e2
  rw [e3]
  show ((b.toNat % 256 : Nat) : Int) = b
  omega
theorem hexT_at (t : ByteArray) {i : Nat} (h : i < t.size) : byteAt (hexT t) (2 * (i : Int)) = byteAt hexD (byteAt t i / 16) ∧ byteAt (hexT t) (2 * (i : Int) + 1) = byteAt hexD (byteAt t i % 16) := by
  obtain ⟨h1, h2⟩ := hexX_at t t.size i h
  have a := byteAt_strOf _ h1 (hexD_lt _).1 (hexD_lt _).2
  have b := byteAt_strOf _ h2 (hexD_lt _).1 (hexD_lt _).2
  constructor
  · have : ((2 * i : Nat) : Int) = 2 * (i : Int) := by omega
    rw [← this]
    exact a
  · have : ((2 * i + 1 : Nat) : Int) = 2 * (i : Int) + 1 := by omega
    rw [← this]
    exact b
theorem hexD_ix : ∀ n : Nat, n < 16 → ixB hexD (byteAt hexD (n : Int)) = (n : Int) := by decide +kernel
theorem hexD_ch : ∀ n : Nat, n < 16 → 48 ≤ byteAt hexD (n : Int) := by decide +kernel
theorem hx_hexT (t : ByteArray) {i : Nat} (h : i < t.size) : hx (hexT t) (2 * (i : Int)) = byteAt t i / 16 ∧ hx (hexT t) (2 * (i : Int) + 1) = byteAt t i % 16 := by
  obtain ⟨h1, h2⟩ := hexT_at t h
  have hb := byteAt_lt t i
  unfold hx
  rw [h1, h2]
  have a := hexD_ix (byteAt t i / 16).toNat (by omega)
  have b := hexD_ix (byteAt t i % 16).toNat (by omega)
  rw [Int.toNat_of_nonneg (by omega)] at a b
  exact ⟨a, b⟩
theorem bytes_ext {a b : ByteArray} (hs : a.size = b.size) (h : ∀ i : Nat, i < a.size → byteAt a i = byteAt b i) : a = b := by
  apply ByteArray.ext
  apply Array.ext'
  refine List.ext_getElem hs fun i h1 h2 => ?_
  have := h i h1
  rw [byteAt_l a h1, byteAt_l b h2] at this
  exact UInt8.toNat_inj.1 (by omega)
theorem unh_hexT (t : ByteArray) : okH (hexT t) = true ∧ unhR (hexT t) = t := by
  have hs := hexT_size t
  have hk : okH (hexT t) = true := by
    unfold okH
    rw [hs, show 2 * t.size / 2 = t.size from by omega, show anyB t.size (badH (hexT t)) = false from anyB_f fun i hi => by
      obtain ⟨h1, h2⟩ := hx_hexT t hi
      have hb := byteAt_lt t i
      unfold badH
      rw [h1, h2, decide_eq_false (show ¬ byteAt t i / 16 < 0 by omega), decide_eq_false (show ¬ byteAt t i % 16 < 0 by omega)]
      rfl, decide_eq_true (show ((2 * t.size : Nat) : Int).tmod 2 = 0 by
      have ev : ((2 * t.size : Nat) : Int).tmod 2 = ((2 * t.size % 2 : Nat) : Int) := rfl
      omega)]
    rfl
  refine ⟨hk, ?_⟩
  unfold unhR
  rw [hk]
  show strOf (unh (hexT t) ((hexT t).size / 2)) = t
  rw [hs, show 2 * t.size / 2 = t.size from by omega]
  have hl : (unh (hexT t) t.size).length = t.size := by simp [unh]
  refine bytes_ext (by rw [strOf_size, hl]) fun i hi => ?_
  rw [strOf_size, hl] at hi
  obtain ⟨h1, h2⟩ := hx_hexT t hi
  have hb := byteAt_lt t i
  have e : (unh (hexT t) t.size)[i]? = some (byteAt t i, ()) := by
    unfold unh
    rw [List.getElem?_map, List.getElem?_range hi]
    show some (hxE (hexT t) (2 * (i : Int))) = _
    unfold hxE
    rw [h1, h2, wrap_id (n := 16 * (byteAt t i / 16)) (by omega) (by omega), wrap_id (n := 16 * (byteAt t i / 16) + byteAt t i % 16) (by omega) (by omega), show 16 * (byteAt t i / 16) + byteAt t i % 16 = byteAt t i from by omega]
    have : IntKind.u8.wrap (byteAt t i) = byteAt t i := by rw [IntKind.wrap_u8]; omega
    rw [this]
  exact byteAt_strOf _ e hb.1 hb.2
theorem free_of {t : ByteArray} {c : UInt8} (h : ∀ i : Nat, i < t.size → byteAt t i ≠ (c.toNat : Int)) : c ∉ t.data.toList := by
  intro hm
  obtain ⟨i, hi, e⟩ := List.getElem_of_mem hm
  refine h i hi ?_
  rw [byteAt_l t hi, e]
theorem name_free {a : ByteArray} (h : nameOk a = true) {c : UInt8} (hc : c.toNat < 97) : c ∉ a.data.toList := by
  unfold nameOk at h
  rw [Bool.and_eq_true] at h
  refine free_of fun i hi e => ?_
  have := allB_at h.2 hi
  simp only [Bool.and_eq_true, decide_eq_true_eq] at this
  omega
theorem hexT_ge (t : ByteArray) {j : Nat} (h : j < (hexT t).size) : 48 ≤ byteAt (hexT t) j := by
  rw [hexT_size] at h
  have hi : j / 2 < t.size := by omega
  obtain ⟨h1, h2⟩ := hexT_at t hi
  have hb := byteAt_lt t ((j / 2 : Nat) : Int)
  have a := hexD_ch (byteAt t ((j / 2 : Nat) : Int) / 16).toNat (by omega)
  have b := hexD_ch (byteAt t ((j / 2 : Nat) : Int) % 16).toNat (by omega)
  rw [Int.toNat_of_nonneg (by omega)] at a b
  by_cases e : j % 2 = 0
  · have : (j : Int) = 2 * ((j / 2 : Nat) : Int) := by omega
    rw [this, h1]
    exact a
  · have : (j : Int) = 2 * ((j / 2 : Nat) : Int) + 1 := by omega
    rw [this, h2]
    exact b
theorem hexT_free (t : ByteArray) : (32 : UInt8) ∉ (hexT t).data.toList := free_of fun i hi e => by
  have := hexT_ge t hi
  have : ((32 : UInt8).toNat : Int) = 32 := rfl
  omega
theorem hexO_free (t : ByteArray) : (32 : UInt8) ∉ (hexO t).data.toList := by
  unfold hexO
  split
  · decide
  · exact hexT_free t
theorem isD_hexT (t : ByteArray) : isD (hexT t) = false := by
  cases h : isD (hexT t) with
  | false => rfl
  | true =>
    have h1 := strEq_iff.1 h
    have h2 := hexT_size t
    rw [h1] at h2
    have h2 : 1 = 2 * t.size := h2
    omega
theorem hexO_cases (t : ByteArray) : (isD (hexO t) = true ∧ t = ⟨#[]⟩) ∨ (isD (hexO t) = false ∧ okH (hexO t) = true ∧ unhR (hexO t) = t) := by
  unfold hexO
  cases h : strEq (hexT t) ⟨#[]⟩ with
  | true =>
    left
    refine ⟨strEq_self _, ?_⟩
    have h1 := strEq_iff.1 h
    have h2 := hexT_size t
    rw [h1] at h2
    have h2 : 0 = 2 * t.size := h2
    exact bytes_ext (by show t.size = 0; omega) fun i hi => by omega
  | false =>
    right
    obtain ⟨a, b⟩ := unh_hexT t
    exact ⟨isD_hexT t, a, b⟩
def mkT (x q : Int) : ByteArray := dec x ++ ⟨#[46]⟩ ++ dec q
theorem mk_data (x q : Int) : (mkT x q).data.toList = (dec x).data.toList ++ 46 :: (dec q).data.toList := by
  unfold mkT
  simp only [ByteArray.data_append, Array.toList_append]
  simp
theorem mk_cut {x q : Int} (hx : 0 ≤ x) (hq : 0 ≤ q) : cutL (mkT x q) 46 = [(dec x, ()), (dec q, ())] := by
  refine cutL_of (ws := [dec x, dec q]) (by simp) (fun w hw => ?_) ?_
  · simp only [List.mem_cons, List.not_mem_nil, or_false] at hw
    rcases hw with rfl | rfl
    · exact dec_free hx (by decide)
    · exact dec_free hq (by decide)
  · rw [mk_data]
    simp only [List.map_cons, List.map_nil, joinW]
    rfl
theorem mk_ix {x q : Int} (hx : 0 ≤ x) : ixB (mkT x q) 46 = ((dec x).size : Int) := by
  have hL := mk_data x q
  have hsz : (mkT x q).size = (dec x).size + 1 + (dec q).size := by
    unfold mkT
    rw [ByteArray.size_append, ByteArray.size_append]
    rfl
  have hdl : (dec x).data.toList.length = (dec x).size := rfl
  unfold ixB
  refine fIx_at (fun j hj => ?_) (by omega) ?_
  · rw [byteAt_l _ (by omega)]
    simp only [hL]
    rw [List.getElem_append_left (by omega)]
    have := decD_dig x.toNat ((dec x).data.toList[j]'(by omega)) (by rw [← dec_data hx]; exact List.getElem_mem _)
    exact beq_eq_false_iff_ne.2 (by omega)
  · rw [byteAt_l _ (by omega)]
    simp only [hL]
    rw [List.getElem_append_right (by omega)]
    simp [hdl]
theorem mk_HZ {x q : Int} (hx : 0 ≤ x) : cutH (mkT x q) 46 = dec x ∧ cutZ (mkT x q) 46 = dec q := by
  have hL := mk_data x q
  have hi := mk_ix (q := q) hx
  have hsz : (mkT x q).size = (dec x).size + 1 + (dec q).size := by
    unfold mkT
    rw [ByteArray.size_append, ByteArray.size_append]
    rfl
  have hdl : (dec x).data.toList.length = (dec x).size := rfl
  have hdq : (dec q).data.toList.length = (dec q).size := rfl
  constructor
  · unfold cutH
    rw [hi, decide_eq_true (show (0 : Int) ≤ ((dec x).size : Int) by omega)]
    apply ByteArray.ext
    apply Array.ext'
    show ((mkT x q).extract 0 ((dec x).size : Int).toNat).data.toList = (dec x).data.toList
    rw [ByteArray.data_extract, Array.toList_extract, hL, Int.toNat_natCast]
    show List.take ((dec x).size - 0) (List.drop 0 _) = _
    rw [List.drop_zero, Nat.sub_zero, ← hdl, List.take_left]
  · unfold cutZ
    rw [hi, decide_eq_true (show (0 : Int) ≤ ((dec x).size : Int) by omega)]
    apply ByteArray.ext
    apply Array.ext'
    show ((mkT x q).extract (((dec x).size : Int).toNat + 1) (mkT x q).size).data.toList = (dec q).data.toList
    rw [ByteArray.data_extract, Array.toList_extract, hL, Int.toNat_natCast]
    show List.take ((mkT x q).size - ((dec x).size + 1)) (List.drop ((dec x).size + 1) _) = _
    rw [← List.drop_drop, ← hdl, List.drop_left, List.drop_succ_cons, List.drop_zero, List.take_of_length_le (by omega)]
theorem lgOk_inv {x q : Int} {a : ByteArray} {i : Int} {u : ByteArray} (h : lgOk x q 3 a ⟨#[]⟩ i u = true) : (1 ≤ x ∧ x ≤ 1000000) ∧ (0 ≤ q ∧ q ≤ 7) ∧ nameOk a = true ∧ (0 ≤ i ∧ i ≤ 7) ∧ (u.size : Int) ≤ 24 := by
  unfold lgOk at h
  simp only [Bool.and_eq_true, decide_eq_true_eq] at h
  exact ⟨⟨h.1, h.2.1⟩, ⟨h.2.2.1, h.2.2.2.1⟩, h.2.2.2.2.2.1, ⟨h.2.2.2.2.2.2.2.1, h.2.2.2.2.2.2.2.2.1⟩, h.2.2.2.2.2.2.2.2.2⟩
theorem logB_mk (x q : Int) (a : ByteArray) (i : Int) (u : ByteArray) : logB x q a i u = mkT x q ++ ⟨#[32]⟩ ++ a ++ ⟨#[32]⟩ ++ dec i ++ ⟨#[32]⟩ ++ hexO u ++ ⟨#[32]⟩ ++ mkT x q := rfl
theorem mk_free {x q : Int} (hx : 0 ≤ x) (hq : 0 ≤ q) : (32 : UInt8) ∉ (mkT x q).data.toList := by
  rw [mk_data]
  have h1 := dec_free (c := 32) hx (by decide)
  have h2 := dec_free (c := 32) hq (by decide)
  simp only [List.mem_append, List.mem_cons, not_or]
  refine ⟨h1, ?_, h2⟩
  decide
theorem lg_cut {x q : Int} {a : ByteArray} {i : Int} {u : ByteArray} (h : lgOk x q 3 a ⟨#[]⟩ i u = true) : cutL (logB x q a i u) 32 = [(mkT x q, ()), (a, ()), (dec i, ()), (hexO u, ()), (mkT x q, ())] := by
  obtain ⟨hx, hq, ha, hi, hu⟩ := lgOk_inv h
  refine cutL_of (ws := [mkT x q, a, dec i, hexO u, mkT x q]) (by simp) (fun w hw => ?_) ?_
  · simp only [List.mem_cons, List.not_mem_nil, or_false] at hw
    rcases hw with rfl | rfl | rfl | rfl | rfl
    · exact mk_free (by omega) hq.1
    · exact name_free ha (by decide)
    · exact dec_free hi.1 (by decide)
    · exact hexO_free u
    · exact mk_free (by omega) hq.1
  · rw [logB_mk]
    simp only [ByteArray.data_append, Array.toList_append, List.map_cons, List.map_nil, joinW]
    simp
theorem lg_size {x q : Int} {a : ByteArray} {i : Int} {u : ByteArray} (h : lgOk x q 3 a ⟨#[]⟩ i u = true) : (logB x q a i u).size ≤ 400 := by
  obtain ⟨hx, hq, ha, hi, hu⟩ := lgOk_inv h
  have d1 := dec_szk (n := x) (by omega) 6 (by have : (10 : Nat) ^ (6 + 1) = 10000000 := by decide
                                               omega)
  have d2 := dec_szk (n := q) (by omega) 0 (by have : (10 : Nat) ^ (0 + 1) = 10 := by decide
                                               omega)
  have d3 := dec_szk (n := i) (by omega) 0 (by have : (10 : Nat) ^ (0 + 1) = 10 := by decide
                                               omega)
  have d4 := nameOk_size ha
  have d5 := hexO_size hu
  have c1 : (⟨#[46]⟩ : ByteArray).size = 1 := rfl
  have c2 : (⟨#[32]⟩ : ByteArray).size = 1 := rfl
  rw [logB_mk]
  unfold mkT
  simp only [ByteArray.size_append, c1, c2]
  omega
theorem logT_t {x q : Int} {a : ByteArray} {i : Int} {u : ByteArray} (h : lgOk x q 3 a ⟨#[]⟩ i u = true) : logT x q 3 a ⟨#[]⟩ i u = sealT (logB x q a i u) := by
  unfold logT
  rw [h]
theorem logT_f {x q : Int} {a : ByteArray} {i : Int} {u : ByteArray} (h : lgOk x q 3 a ⟨#[]⟩ i u = false) : logT x q 3 a ⟨#[]⟩ i u = ByteArray.empty := by
  unfold logT
  rw [h]
/-- What a record's text comes to. -/
theorem lg_key {x q : Int} {a : ByteArray} {i : Int} {u : ByteArray} (h : lgOk x q 3 a ⟨#[]⟩ i u = true) :
    let t := logT x q 3 a ⟨#[]⟩ i u
    (opnK t = true ∧ ((cutL (opnT t) 32).length : Int) = 5 ∧ ((cutL (lw t 0) 46).length : Int) = 2) ∧ (numN (lm t 0) = x ∧ numN (lm t 1) = q ∧ lw t 1 = a ∧ numN (lw t 2) = i ∧ hxO t = u) ∧
    ((atK (cutH (lw t 0) 46) = true ∧ atN (cutH (lw t 0) 46) = x) ∧ (atK (cutZ (lw t 0) 46) = true ∧ atN (cutZ (lw t 0) 46) = q) ∧ (atK (lw t 2) = true ∧ atN (lw t 2) = i)) ∧ (isD (lw t 3) || okH (lw t 3)) = true := by
  intro t
  obtain ⟨hx, hq, ha, hi, hu⟩ := lgOk_inv h
  have ht : t = sealT (logB x q a i u) := logT_t h
  obtain ⟨o1, o2⟩ := opn_seal (lg_size h)
  have hc := lg_cut h
  have w0 : lw t 0 = mkT x q := by
    unfold lw wd at1
    rw [ht, o2, hc]
    rfl
  have w1 : lw t 1 = a := by
    unfold lw wd at1
    rw [ht, o2, hc]
    rfl
  have w2 : lw t 2 = dec i := by
    unfold lw wd at1
    rw [ht, o2, hc]
    rfl
  have w3 : lw t 3 = hexO u := by
    unfold lw wd at1
    rw [ht, o2, hc]
    rfl
  have m0 : lm t 0 = dec x := by
    unfold lm wd at1
    rw [w0, mk_cut (by omega) (by omega)]
    rfl
  have m1 : lm t 1 = dec q := by
    unfold lm wd at1
    rw [w0, mk_cut (by omega) (by omega)]
    rfl
  obtain ⟨_, nx⟩ := num_dec (n := x) (by omega) (by omega)
  obtain ⟨_, nq⟩ := num_dec (n := q) (by omega) (by omega)
  obtain ⟨_, ni⟩ := num_dec (n := i) (by omega) (by omega)
  obtain ⟨hH, hZ⟩ := mk_HZ (x := x) (q := q) (by omega)
  have hO : hxO t = u := by
    unfold hxO
    rw [w3]
    rcases hexO_cases u with ⟨h1, h2⟩ | ⟨h1, _, h2⟩
    · rw [h1, h2]
    · rw [h1]
      exact h2
  have hK : (isD (hexO u) || okH (hexO u)) = true := by
    rcases hexO_cases u with ⟨h1, h2⟩ | ⟨h1, h3, h2⟩
    · rw [h1]; rfl
    · rw [h3, Bool.or_true]
  refine ⟨⟨by rw [ht]; exact o1, by rw [ht, o2, hc]; rfl, by rw [w0, mk_cut (by omega) (by omega)]; rfl⟩, ⟨by rw [m0]; exact nx, by rw [m1]; exact nq, w1, by rw [w2]; exact ni, hO⟩, ⟨?_, ?_, ?_⟩, by rw [w3]; exact hK⟩
  · rw [w0, hH]
    exact at_dec (by omega) (by omega)
  · rw [w0, hZ]
    exact at_dec (by omega) (by omega)
  · rw [w2]
    exact at_dec (by omega) (by omega)
theorem lg_valid {t : ByteArray} {x q : Int} {a : ByteArray} {i : Int} {u : ByteArray} (hL : ((cutL (opnT t) 32).length : Int) = 5) (h : logT x q 3 a ⟨#[]⟩ i u = t) : lgOk x q 3 a ⟨#[]⟩ i u = true := by
  cases hv : lgOk x q 3 a ⟨#[]⟩ i u with
  | true => rfl
  | false =>
    rw [logT_f hv] at h
    rw [← h, opnT_empty] at hL
    exact absurd hL (by decide)
/-- What the program asks of a text. -/
def lrP (t : ByteArray) : Bool := decide (((cutL (opnT t) 32).length : Int) = 5) && (atK (cutH (lw t 0) 46) && (atK (cutZ (lw t 0) 46) && (atK (lw t 2) && ((isD (lw t 3) || okH (lw t 3)) && strEq (logT (atN (cutH (lw t 0) 46)) (atN (cutZ (lw t 0) 46)) 3 (lw t 1) ⟨#[]⟩ (atN (lw t 2)) (hxO t)) t))))
theorem lr_eq (t : ByteArray) : lrP t = lrK t ∧ (lrK t = true → atN (cutH (lw t 0) 46) = numN (lm t 0) ∧ atN (cutZ (lw t 0) 46) = numN (lm t 1) ∧ atN (lw t 2) = numN (lw t 2)) := by
  have f1 : lrP t = true → lrK t = true ∧ atN (cutH (lw t 0) 46) = numN (lm t 0) ∧ atN (cutZ (lw t 0) 46) = numN (lm t 1) ∧ atN (lw t 2) = numN (lw t 2) := by
    intro h
    unfold lrP at h
    simp only [Bool.and_eq_true, decide_eq_true_eq] at h
    obtain ⟨hL, _, _, _, _, he⟩ := h
    have he := strEq_iff.1 he
    generalize atN (cutH (lw t 0) 46) = x at he ⊢
    generalize atN (cutZ (lw t 0) 46) = q at he ⊢
    generalize atN (lw t 2) = i at he ⊢
    generalize hu : hxO t = u at he
    generalize ha : lw t 1 = a at he
    obtain ⟨⟨o, l, l2⟩, ⟨n0, n1, n2, n3, n4⟩, _⟩ := lg_key (lg_valid hL he)
    rw [he] at o l l2 n0 n1 n2 n3 n4
    refine ⟨?_, n0.symm, n1.symm, n3.symm⟩
    unfold lrK
    rw [o, n0, n1, n2, n3, n4, he, strEq_self, decide_eq_true l, decide_eq_true l2]
    rfl
  have f2 : lrK t = true → lrP t = true := by
    intro h
    unfold lrK at h
    simp only [Bool.and_eq_true, decide_eq_true_eq] at h
    obtain ⟨_, hL, _, he⟩ := h
    have he := strEq_iff.1 he
    generalize numN (lm t 0) = x at he
    generalize numN (lm t 1) = q at he
    generalize numN (lw t 2) = i at he
    generalize hu : hxO t = u at he
    generalize ha : lw t 1 = a at he
    obtain ⟨⟨o, l, l2⟩, ⟨n0, n1, n2, n3, n4⟩, ⟨⟨k1, v1⟩, ⟨k2, v2⟩, k3, v3⟩, k4⟩ := lg_key (lg_valid hL he)
    rw [he] at o l l2 n2 n4 k1 v1 k2 v2 k3 v3 k4
    unfold lrP
    rw [k1, k2, k3, k4, v1, v2, v3, n2, n4, he, strEq_self, decide_eq_true l]
    rfl
  constructor
  · cases hI : lrP t with
    | true => rw [(f1 hI).1]
    | false =>
      cases hK : lrK t with
      | false => rfl
      | true => rw [f2 hK] at hI; cases hI
  · intro h
    exact (f1 (f2 h)).2
theorem lr_f {t : ByteArray} (h : lrK t = false) : (some ⟨.tup [lgA 0 0 0 ⟨#[]⟩ ⟨#[]⟩ 0 ⟨#[]⟩, vB false], [], []⟩ : Option Res) = some ⟨.tup [lgA (lrX t) (lrQ t) (lrN t) (lrA t) ⟨#[]⟩ (lrI t) (lrT t), .val (.bool (lrK t))], [], []⟩ := by
  unfold lrX lrQ lrN lrA lrI lrT
  rw [h]
theorem lr_t {t : ByteArray} (h : lrK t = true) : (some ⟨.tup [lgA (numN (lm t 0)) (numN (lm t 1)) 3 (lw t 1) ⟨#[]⟩ (numN (lw t 2)) (hxO t), vB true], [], []⟩ : Option Res) = some ⟨.tup [lgA (lrX t) (lrQ t) (lrN t) (lrA t) ⟨#[]⟩ (lrI t) (lrT t), .val (.bool (lrK t))], [], []⟩ := by
  unfold lrX lrQ lrN lrA lrI lrT
  rw [h]
theorem cutH_size (s : ByteArray) (b : Int) : (cutH s b).size ≤ s.size := by
  unfold cutH
  split
  · rw [ByteArray.size_extract]
    omega
  · exact Nat.le_refl _
end Go.Proofs.YtljilcingbohkabDoor.Ev
