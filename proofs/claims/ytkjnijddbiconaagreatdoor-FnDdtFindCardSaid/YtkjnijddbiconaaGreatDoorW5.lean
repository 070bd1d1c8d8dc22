/- The law of DdtRead. -/
import Derived.Test.YtkjnijddbiconaaGreatDoorW3
import Derived.Test.YtkjnijddbiconaaGreatDoorD6
import Derived.Test.YtkjnijddbiconaaGreatDoorD6T
namespace Go.Proofs.YtkjnijddbiconaaGreatDoor.Ev
open Go
set_option linter.unusedVariables false
set_option linter.unusedSimpArgs false
set_option maxRecDepth 100000
set_option maxHeartbeats 1000000
def wz (t : ByteArray) (j : Nat) : ByteArray := wd t 32 j
def has3 (t : ByteArray) (j : Nat) : Bool := decide (((cutL (wz t j) 46).length : Int) = 3)
def enS (t : ByteArray) (j : Nat) : Elem k3 := (numN (wd (wz t j) 46 0), numN (wd (wz t j) 46 1), numN (wd (wz t j) 46 2), ())
def enL (t : ByteArray) : List (Elem k3) := (List.range (cutL t 32).length).map (enS t)
def ddK (t : ByteArray) : Bool := decide ((t.size : Int) ≤ 1000) && (strEq t ⟨#[]⟩ || (allB (cutL t 32).length (has3 t) && (ddtOk (enL t) && strEq (ddtT (enL t)) t)))
def ddL (t : ByteArray) : List (Elem k3) := match strEq t ⟨#[]⟩ with
  | true => []
  | false => match ddK t with
    | true => enL t
    | false => []
def g44 : G1
  | [.val (.string t)], [], k => br (decide (t.size ≤ 1048576)) (k ⟨.tup [.ows 0, .val (.bool (ddK t))], [.row [.int .i64, .int .i64, .int .i64] (ddL t)], []⟩) False
  | _, _, _ => False
theorem joinW_int' (c : UInt8) : ∀ (ws : List (List UInt8)), joinW c ws = [c].intercalate ws
  | [] => rfl
  | [w] => by simp [joinW, List.intercalate, List.intersperse]
  | w :: v :: ws => by
    have ih := joinW_int' c (v :: ws)
    show w ++ c :: joinW c (v :: ws) = _
    rw [ih]
    simp [List.intercalate, List.intersperse]
theorem joinT_data (ys : List (Elem ks)) (c : UInt8) : (joinT ys ⟨#[c]⟩).data.toList = joinW c (txt ys) := by
  rw [joinW_int']
  rfl
theorem joinT_cut' (t : ByteArray) : joinT (cutL t 32) ⟨#[32]⟩ = t := by
  have h := txt_cutL t 32
  have h2 : (joinT (cutL t 32) ⟨#[32]⟩).data.toList = t.data.toList := by
    rw [joinT_data, h]
    exact joinW_split 32 t.data.toList
  apply ByteArray.ext
  apply Array.ext'
  exact h2
theorem cut_join {ys : List (Elem ks)} (h0 : ys ≠ []) (hf : ∀ e ∈ ys, (32 : UInt8) ∉ e.1.data.toList) : cutL (joinT ys ⟨#[32]⟩) 32 = ys := by
  refine (txt_inv (c := 32) ?_).symm
  show txt ys = splitW 32 _
  rw [joinT_data, splitW_join 32 (txt ys) (by unfold txt; simpa using h0) (fun w hw => by
    unfold txt at hw
    obtain ⟨e, he, rfl⟩ := List.mem_map.1 hw
    exact hf e he)]
theorem pts3_free {a b c : Int} (ha : 0 ≤ a) (hb : 0 ≤ b) (hc : 0 ≤ c) : (32 : UInt8) ∉ (pts3 a b c).data.toList := by
  have h1 := dec_free (c := 32) ha (by decide)
  have h2 := dec_free (c := 32) hb (by decide)
  have h3 := dec_free (c := 32) hc (by decide)
  unfold pts3
  simp only [ByteArray.data_append, Array.toList_append, List.mem_append, not_or]
  refine ⟨⟨⟨⟨h1, ?_⟩, h2⟩, ?_⟩, h3⟩ <;> decide
def enI (t : ByteArray) (j : Nat) : Elem k3 := (t3V (wz t j) 0, t3V (wz t j) 1, t3V (wz t j) 2, ())
def enIL (t : ByteArray) : List (Elem k3) := (List.range (cutL t 32).length).map (enI t)
theorem cutL_pos (t : ByteArray) (c : Int) : 0 < (cutL t c).length := by
  unfold cutL
  rw [List.length_map]
  exact List.length_pos_iff.2 (splitW_ne _ _)
theorem wz_at (t : ByteArray) {j : Nat} (hj : j < (cutL t 32).length) : (cutL t 32)[j] = (wz t j, ()) := by
  unfold wz wd at1
  rw [List.getD_eq_getElem?_getD, List.getElem?_eq_getElem hj]
  rfl
theorem map_range {n : Nat} {L : List (Elem k3)} (hl : L.length = n) (f : Nat → Elem k3) (h : ∀ j, j < n → f j = L.getD j (edflt k3)) : (List.range n).map f = L := by
  refine List.ext_getElem (by simp [hl]) fun j h1 h2 => ?_
  rw [List.getElem_map, List.getElem_range, h j (by omega), List.getD_eq_getElem?_getD, List.getElem?_eq_getElem h2]
  rfl
/-- Where the words are the texts of valid entries, both ways read these. -/
theorem dd_key {t : ByteArray} {L : List (Elem k3)} (hl : L.length = (cutL t 32).length) (hd : ddtOk L = true) (hw : ∀ j, j < L.length → wz t j = entT (L.getD j (edflt k3))) :
    enL t = L ∧ enIL t = L ∧ (allB (cutL t 32).length (has3 t)) = true ∧ (allB (cutL t 32).length fun j => t3K (wz t j)) = true ∧ ddtT L = t := by
  have num : ∀ j, j < L.length → enS t j = L.getD j (edflt k3) ∧ enI t j = L.getD j (edflt k3) ∧ has3 t j = true ∧ t3K (wz t j) = true := by
    intro j hj
    obtain ⟨⟨a1, a2⟩, ⟨b1, b2⟩, c1, c2⟩ := ddtOk_ent hd hj
    have hwj := hw j hj
    generalize hE : L.getD j (edflt k3) = E at hwj a1 a2 b1 b2 c1 c2
    obtain ⟨a, b, c, ⟨⟩⟩ := E
    have a1 : 0 ≤ a := a1
    have b1 : 0 ≤ b := b1
    have c1 : 0 ≤ c := c1
    have a2 : a ≤ 65520 := a2
    have b2 : b ≤ 65520 := b2
    have c2 : c ≤ 65520 := c2
    have hwj : wz t j = pts3 a b c := hwj
    have ha : (0 : Int) ≤ a ∧ (a : Int) < 1000000000000000 := ⟨a1, Int.lt_of_le_of_lt a2 (by decide)⟩
    have hb : (0 : Int) ≤ b ∧ (b : Int) < 1000000000000000 := ⟨b1, Int.lt_of_le_of_lt b2 (by decide)⟩
    have hc : (0 : Int) ≤ c ∧ (c : Int) < 1000000000000000 := ⟨c1, Int.lt_of_le_of_lt c2 (by decide)⟩
    obtain ⟨⟨_, n0⟩, ⟨_, n1⟩, _, n2⟩ := num3 ha hb hc
    obtain ⟨k, v0, v1, v2⟩ := t3_of ha hb hc
    unfold enS enI has3
    rw [hwj, n0, n1, n2, v0, v1, v2]
    refine ⟨rfl, rfl, decide_eq_true ?_, k⟩
    rw [cut3 a1 b1 c1]
    rfl
  have hS : entS L = cutL t 32 := by
    refine List.ext_getElem (by unfold entS; rw [List.length_map]; exact hl) fun j h1 h2 => ?_
    have hj : j < L.length := by omega
    simp only [entS, List.getElem_map]
    rw [wz_at t h2, hw j hj, List.getD_eq_getElem?_getD, List.getElem?_eq_getElem hj]
    rfl
  refine ⟨map_range hl _ fun j hj => (num j (hl ▸ hj)).1, map_range hl _ fun j hj => (num j (hl ▸ hj)).2.1, allB_t fun j hj => (num j (hl ▸ hj)).2.2.1, allB_t fun j hj => (num j (hl ▸ hj)).2.2.2, ?_⟩
  unfold ddtT
  rw [hd, hS]
  exact joinT_cut' t
def pI (t : ByteArray) : Bool := (allB (cutL t 32).length fun j => t3K (wz t j)) && ddtOk (enIL t)
def pS (t : ByteArray) : Bool := allB (cutL t 32).length (has3 t) && (ddtOk (enL t) && strEq (ddtT (enL t)) t)
theorem getD_range {n j : Nat} (f : Nat → Elem k3) (hj : j < n) : ((List.range n).map f).getD j (edflt k3) = f j := by
  rw [List.getD_eq_getElem?_getD, List.getElem?_map, List.getElem?_range hj]
  rfl
theorem dd_eq (t : ByteArray) : pI t = pS t ∧ (pS t = true → enIL t = enL t) := by
  have f1 : pI t = true → pS t = true ∧ enIL t = enL t := by
    intro h
    unfold pI at h
    rw [Bool.and_eq_true] at h
    have hl : (enIL t).length = (cutL t 32).length := by unfold enIL; rw [List.length_map, List.length_range]
    obtain ⟨k1, k2, k3, k4, k5⟩ := dd_key hl h.2 (fun j hj => by
      have hj' : j < (cutL t 32).length := hl ▸ hj
      have := (t3K_inv (allB_at h.1 hj')).2
      unfold enIL
      rw [getD_range _ hj']
      exact this)
    refine ⟨?_, k1.symm⟩
    unfold pS
    rw [k3, k1, h.2, k5, strEq_self]
    rfl
  have f2 : pS t = true → pI t = true ∧ enIL t = enL t := by
    intro h
    unfold pS at h
    rw [Bool.and_eq_true, Bool.and_eq_true] at h
    obtain ⟨h1, h2, h3⟩ := h
    have hl : (enL t).length = (cutL t 32).length := by unfold enL; rw [List.length_map, List.length_range]
    have hT : joinT (entS (enL t)) ⟨#[32]⟩ = t := by
      have := strEq_iff.1 h3
      unfold ddtT at this
      rw [h2] at this
      exact this
    have hne : entS (enL t) ≠ [] := by
      intro e
      have h5 : (entS (enL t)).length = 0 := by rw [e]; rfl
      unfold entS at h5
      rw [List.length_map, hl] at h5
      have := cutL_pos t 32
      omega
    have hC : cutL t 32 = entS (enL t) := by
      conv => lhs; rw [← hT]
      refine cut_join hne fun e he => ?_
      unfold entS at he
      obtain ⟨x, hx, rfl⟩ := List.mem_map.1 he
      obtain ⟨j, hj, rfl⟩ := List.getElem_of_mem hx
      obtain ⟨⟨a1, _⟩, ⟨b1, _⟩, c1, _⟩ := ddtOk_ent h2 hj
      rw [List.getD_eq_getElem?_getD, List.getElem?_eq_getElem hj] at a1 b1 c1
      exact pts3_free (a := (enL t)[j].1) (b := (enL t)[j].2.1) (c := (enL t)[j].2.2.1) a1 b1 c1
    obtain ⟨k1, k2, k3, k4, k5⟩ := dd_key hl h2 (fun j hj => by
      have hj' : j < (cutL t 32).length := by omega
      have e1 := wz_at t hj'
      have e2 : (cutL t 32)[j]'hj' = (entT ((enL t).getD j (edflt k3)), ()) := by
        simp only [hC]
        unfold entS
        rw [List.getElem_map, List.getD_eq_getElem?_getD, List.getElem?_eq_getElem hj]
        rfl
      exact congrArg Prod.fst (e1.symm.trans e2))
    refine ⟨?_, k2⟩
    unfold pI
    rw [k4, k2, h2]
    rfl
  constructor
  · cases hI : pI t with
    | true => rw [(f1 hI).1]
    | false =>
      cases hS : pS t with
      | false => rfl
      | true => rw [(f2 hS).1] at hI; cases hI
  · intro h
    exact (f2 h).2
theorem enIL_next (t : ByteArray) {i : Nat} (hi : i < (cutL t 32).length) : (enIL t).take (i + 1) = (enIL t).take i ++ [enI t i] := by
  unfold enIL
  rw [List.take_add_one, List.getElem?_map, List.getElem?_range hi]
  rfl
theorem enIL_len (t : ByteArray) : (enIL t).length = (cutL t 32).length := by unfold enIL; rw [List.length_map, List.length_range]
theorem cutL_len (s : ByteArray) (c : Int) : (cutL s c).length ≤ s.size + 1 := by
  unfold cutL
  rw [List.length_map]
  exact splitW_len _ _
theorem dd_f {t : ByteArray} (he : strEq t ⟨#[]⟩ = false) (h : ddK t = false) : (some ⟨.tup [.ows 0, vB false], [.row k3 []], []⟩ : Option Res) = some ⟨.tup [.ows 0, .val (.bool (ddK t))], [.row k3 (ddL t)], []⟩ := by
  unfold ddL
  rw [he, h]
theorem dd_t {t : ByteArray} (he : strEq t ⟨#[]⟩ = false) (h : ddK t = true) : (some ⟨.tup [.ows 0, vB true], [.row k3 (enL t)], []⟩ : Option Res) = some ⟨.tup [.ows 0, .val (.bool (ddK t))], [.row k3 (ddL t)], []⟩ := by
  unfold ddL
  rw [he, h]
theorem dd_e {t : ByteArray} (he : strEq t ⟨#[]⟩ = true) (h : ¬ (t.size : Int) > 1000) : (some ⟨.tup [.ows 0, vB true], [.row k3 []], []⟩ : Option Res) = some ⟨.tup [.ows 0, .val (.bool (ddK t))], [.row k3 (ddL t)], []⟩ := by
  have : ddK t = true := by
    unfold ddK
    rw [he, decide_eq_true (show (t.size : Int) ≤ 1000 by omega)]
    rfl
  unfold ddL
  rw [he, this]
theorem dd_l {t : ByteArray} (h : (t.size : Int) > 1000) : (some ⟨.tup [.ows 0, vB false], [.row k3 []], []⟩ : Option Res) = some ⟨.tup [.ows 0, .val (.bool (ddK t))], [.row k3 (ddL t)], []⟩ := by
  have hk : ddK t = false := by
    unfold ddK
    rw [decide_eq_false (show ¬ (t.size : Int) ≤ 1000 by omega)]
    rfl
  have he : strEq t ⟨#[]⟩ = false := by
    cases hh : strEq t ⟨#[]⟩ with
    | false => rfl
    | true =>
      have := strEq_iff.1 hh
      rw [this] at h
      exact absurd h (by decide)
  exact dd_f he hk
theorem ddtT_nil : ddtT [] = ⟨#[]⟩ := by
  have h : ddtOk [] = true := rfl
  unfold ddtT
  rw [h]
  rfl
theorem ddK_S {t : ByteArray} (he : strEq t ⟨#[]⟩ = false) (h : ¬ (t.size : Int) > 1000) : ddK t = pS t := by
  unfold ddK pS
  rw [he, decide_eq_true (show (t.size : Int) ≤ 1000 by omega)]
  rfl
noncomputable def E44 : Env := Ef.of Tryz.f44
noncomputable def G44 : Gk := gk [(97, g97), (117, g117), (112, g112)]
noncomputable def lp44 (n : Nat) : Code := (loopOf n (codeOf Tryz.f44)).getD .skip
noncomputable def ct44 (L : Lp) (R : Option Res → Prop) (n : Nat) : Kt := contOf E44 G44 L n (codeOf Tryz.f44) (endK E44 Tryz.f44.results.toList R)
noncomputable def rk44 (L : Lp) (R : Option Res → Prop) (n : Nat) (N : St → Prop) : Kt := rk (jof E44 (lp44 n)) N (ct44 L R n)
noncomputable def LOOP44 (L : Lp) (R : Option Res → Prop) (n : Nat) (st : St) : Prop := L (lp44 n) st (ct44 L R n)
theorem hg44 : HG Tryz.prog G44 := (hg_cons h97 (hg_cons h117 (hg_cons h112 hg_nil)))
theorem okf44 : Ok Tryz.prog E44 := okf.of Tryz.f44
theorem e44 (L : Lp) (R : Option Res → Prop) (t : ByteArray) : (bodyP Ef G44 L Tryz.f44 [.val (.string t)] [] R) = (
    br (decide ((↑t.size : Int) > 1000)) (R (some { av := AV.tup [AV.ows 0, vB false], obs := [AO.row k3 []], outs := [] })) (br (strEq t { data := #[] }) (R (some { av := AV.tup [AV.ows 0, vB true], obs := [AO.row k3 []], outs := [] })) (br (decide (t.size ≤ 1048576) && true) (LOOP44 L R 7 { tm := [vJ, vJ, vJ, vJ, AV.ows 0, vJ, vJ, vJ, vJ, vJ, vJ, vJ, vJ, vJ, vJ, vJ, vJ, AV.ows 1, vI (↑(cutL t 32).length : Int), vI 0, vJ, vJ, vJ, vJ, vJ, vJ, vJ, vJ, vJ, vJ, vJ, vJ, vJ, vJ, vJ, vJ, vJ, vJ, vJ, vJ, vJ, vJ, vJ, vJ], ob := [(0, AO.row k3 []), (1, AO.row ks (cutL t 32))], nx := 1000000, ps := [] }) False))) := by kernel_rfl
def st44 (t : ByteArray) (i : Int) (ys : List (Elem k3)) : St :=  ⟨[vJ, vJ, vJ, vJ, AV.ows 0, vJ, vJ, vJ, vJ, vJ, vJ, vJ, vJ, vJ, vJ, vJ, vJ, AV.ows 1, vI (↑(cutL t 32).length : Int), .val (.int .i64 i), vJ, vJ, vJ, vJ, vJ, vJ, vJ, vJ, vJ, vJ, vJ, vJ, vJ, vJ, vJ, vJ, vJ, vJ, vJ, vJ, vJ, vJ, vJ, vJ], [(0, .row k3 ys), (1, AO.row ks (cutL t 32))], 1000000, []⟩
theorem b44 (L : Lp) (R : Option Res → Prop) (N : St → Prop) (t : ByteArray) (i : Int) (ys : List (Elem k3)) : (evP E44 G44 L (lp44 7) (st44 t i ys) (rk44 L R 7 N)) = (
    br (decide (i < (↑(cutL t 32).length : Int))) (br (decide (0 ≤ i ∧ i < (↑(cutL t 32).length : Int))) (br (decide (ByteArray.size ((cutL t 32).getD i.toNat (edflt ks)).fst ≤ 1048576)) (br (!t3K ((cutL t 32).getD i.toNat (edflt ks)).fst) (R (some { av := AV.tup [AV.ows 0, vB false], obs := [AO.row k3 []], outs := [] })) (br (decide ((ys.length + [(t3V ((cutL t 32).getD i.toNat (edflt ks)).fst 0, t3V ((cutL t 32).getD i.toNat (edflt ks)).fst 1, t3V ((cutL t 32).getD i.toNat (edflt ks)).fst 2, ())].length) * 24 ≤ 140737488355328)) (N { tm := [vJ, vJ, vJ, vJ, AV.ows 0, vJ, vJ, vJ, vJ, vJ, vJ, vJ, vJ, vJ, vJ, vJ, vJ, AV.ows 1, vI (↑(cutL t 32).length : Int), vI (IntKind.i64.wrap (i + 1)), vJ, vJ, vJ, vJ, vJ, vJ, vJ, vJ, vJ, vJ, vJ, vJ, vJ, vJ, vJ, vJ, vJ, vJ, vJ, vJ, vJ, vJ, vJ, vJ], ob := [(0, AO.row k3 (ys ++ [(t3V ((cutL t 32).getD i.toNat (edflt ks)).fst 0, t3V ((cutL t 32).getD i.toNat (edflt ks)).fst 1, t3V ((cutL t 32).getD i.toNat (edflt ks)).fst 2, ())])), (1, AO.row ks (cutL t 32))], nx := 1000000, ps := [] }) False)) False) False) (br (decide (ys.length ≤ 1048576)) (br (!ddtOk ys) (R (some { av := AV.tup [AV.ows 0, vB false], obs := [AO.row k3 []], outs := [] })) (R (some { av := AV.tup [AV.ows 0, vB true], obs := [AO.row k3 ys], outs := [] }))) False)) := by kernel_rfl
theorem h44 : G1Ok Tryz.prog 44 g44 := by
  intro args obs k h
  unfold g44 at h
  split at h
  · rename_i k t
    obtain ⟨hl, h⟩ := brd h
    refine ⟨_, ctr_fn okf hg44 Tryz.func44 (by kernel_rfl) (by kernel_rfl) (by kernel_rfl) fun C => ?_, h⟩
    rw [e44]
    refine br_dec (fun h1 => dd_l h1) (fun h1 => br_intro (fun he => dd_e he h1) (fun he => br_t (by rw [decide_eq_true hl]; rfl) ?_))
    have hcl := cutL_len t 32
    have hK := ddK_S he h1
    obtain ⟨hIS, hL⟩ := dd_eq t
    refine loopUp okf44 hg44 (fun i ys => st44 t i ys) (cutL t 32).length (fun i ys => ys = (enIL t).take i ∧ ∀ j, j < i → t3K (wz t j) = true) (fun N i ys hi hy next => ?_) [] ⟨rfl, fun j hj => by omega⟩
    obtain ⟨hy, hall⟩ := hy
    show evP E44 G44 _ (lp44 7) (st44 t i ys) (rk44 _ _ 7 _)
    have ws : (wz t i).size ≤ 1048576 := Nat.le_trans (wd_size t 32 i) hl
    have hyl : ys.length ≤ (cutL t 32).length := by rw [hy, List.length_take, enIL_len]; omega
    rw [b44, Int.toNat_natCast, wrap_id (n := (i : Int) + 1) (by omega) (by omega)]
    refine br_dec (fun h2 => br_yes ⟨by omega, h2⟩ (br_yes ws (br_not (fun h3 => dd_f he ?_) (fun h3 => br_yes (by show (ys.length + 1) * 24 ≤ _; omega) ?_)))) (fun h2 => ?_)
    · rw [hK, ← hIS]
      unfold pI
      rw [allB_f (i := i) (by omega) h3]
      rfl
    · refine next (by omega) _ ⟨by rw [enIL_next t (by omega), hy]; rfl, fun j hj => ?_⟩
      by_cases e : j < i
      · exact hall j e
      · have : j = i := by omega
        rw [this]
        exact h3
    · have hall' : (allB (cutL t 32).length fun j => t3K (wz t j)) = true := allB_t fun j hj => hall j (by omega)
      have hy' : ys = enIL t := by rw [hy, List.take_of_length_le (by rw [enIL_len]; omega)]
      subst hy'
      have hp : pI t = ddtOk (enIL t) := by unfold pI; rw [hall']; rfl
      refine br_yes (by omega) (br_not (fun h3 => dd_f he (by rw [hK, ← hIS, hp, h3])) (fun h3 => ?_))
      have hS : pS t = true := by rw [← hIS, hp, h3]
      show _ = _
      rw [hL hS]
      exact dd_t he (by rw [hK, hS])
  · exact h.elim
end Go.Proofs.YtkjnijddbiconaaGreatDoor.Ev
