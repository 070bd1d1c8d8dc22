/- Hexadecimals that are written. -/
import Derived.Test.YtkjnijddbiconaaDoorD22
namespace Go.Proofs.YtkjnijddbiconaaDoor.Ev
open Go
set_option linter.unusedVariables false
set_option linter.unusedSimpArgs false
set_option maxRecDepth 100000
def hex2 (c : Int) : List (Elem ku) := [(byteAt hexD (c.tdiv 16), ()), (byteAt hexD (c.tmod 16), ())]
def hexL (t : ByteArray) (j : Nat) : List (Elem ku) := (List.range j).flatMap fun (q : Nat) => hex2 (byteAt t q)
def hexT (t : ByteArray) : ByteArray := strOf (hexL t t.size)
def g11 : G1
  | [.val (.string t)], [], k => br (decide (t.size ≤ 1048576)) (k ⟨.val (.string (hexT t)), [], []⟩) False
  | _, _, _ => False
theorem hexL_succ (t : ByteArray) (j : Nat) : hexL t (j + 1) = hexL t j ++ hex2 (byteAt t j) := by
  unfold hexL
  rw [List.range_succ, List.flatMap_append]
  simp
theorem hexL_len (t : ByteArray) (j : Nat) : (hexL t j).length = 2 * j := by
  induction j with
  | zero => rfl
  | succ j ih => rw [hexL_succ, List.length_append, ih]; show 2 * j + 2 = _; omega
theorem hexL_at (t : ByteArray) : ∀ (j q : Nat), q < j → (hexL t j)[2 * q]? = some (byteAt hexD ((byteAt t q).tdiv 16), ()) ∧ (hexL t j)[2 * q + 1]? = some (byteAt hexD ((byteAt t q).tmod 16), ())
  | 0, q, h => by omega
  | j + 1, q, h => by
    rw [hexL_succ]
    have hl := hexL_len t j
    by_cases h1 : q < j
    · obtain ⟨e1, e2⟩ := hexL_at t j q h1
      rw [List.getElem?_append_left (by omega), List.getElem?_append_left (by omega)]
      exact ⟨e1, e2⟩
    · have : q = j := by omega
      subst this
      rw [List.getElem?_append_right (by omega), List.getElem?_append_right (by omega), hl, show 2 * q - 2 * q = 0 by omega, show 2 * q + 1 - 2 * q = 1 by omega]
      exact ⟨rfl, rfl⟩
theorem strOf_size (xs : List (Elem ku)) : (strOf xs).size = xs.length := by
  show (List.toArray _).size = _
  simp
theorem byteAt_strOf (xs : List (Elem ku)) (i : Nat) (v : Int) (h : xs[i]? = some (v, ())) (h0 : 0 ≤ v) (h1 : v ≤ 255) : byteAt (strOf xs) i = v := by
  rw [byteAt_l]
  unfold strOf
  rw [List.getD_eq_getElem?_getD]
  simp only [List.getElem?_map]
  rw [h]
  show (((UInt8.ofNat v.toNat).toNat : Nat) : Int) = v
  have : (UInt8.ofNat v.toNat).toNat = v.toNat % 256 := rfl
  rw [this]
  omega
theorem hexT_size (t : ByteArray) : (hexT t).size = 2 * t.size := by
  unfold hexT
  rw [strOf_size, hexL_len]
theorem hexT_at (t : ByteArray) (q : Nat) (h : q < t.size) : byteAt (hexT t) (2 * (q : Int)) = byteAt hexD ((byteAt t q).tdiv 16) ∧ byteAt (hexT t) (2 * (q : Int) + 1) = byteAt hexD ((byteAt t q).tmod 16) := by
  obtain ⟨e1, e2⟩ := hexL_at t t.size q h
  have b1 := byteAt_lt hexD ((byteAt t q).tdiv 16)
  have b2 := byteAt_lt hexD ((byteAt t q).tmod 16)
  have r1 := byteAt_strOf _ _ _ e1 b1.1 b1.2
  have r2 := byteAt_strOf _ _ _ e2 b2.1 b2.2
  exact ⟨by rw [← r1]; rfl, by rw [← r2]; rfl⟩
theorem hex_ix : ∀ m : Nat, m < 16 → ixB hexD (byteAt hexD m) = m := by decide +kernel
theorem hx_hexT (t : ByteArray) (q : Nat) (h : q < t.size) : hx (hexT t) (2 * (q : Int)) = (byteAt t q) / 16 ∧ hx (hexT t) (2 * (q : Int) + 1) = (byteAt t q) % 16 := by
  obtain ⟨e1, e2⟩ := hexT_at t q h
  obtain ⟨b1, b2⟩ := byteAt_lt t q
  unfold hx
  rw [e1, e2, Int.tdiv_eq_ediv_of_nonneg b1, Int.tmod_eq_emod_of_nonneg b1]
  obtain ⟨c, hc⟩ : ∃ c : Nat, byteAt t q = c := ⟨(byteAt t q).toNat, by omega⟩
  rw [hc]
  refine ⟨?_, ?_⟩
  · have := hex_ix (c / 16) (by omega)
    exact this
  · have := hex_ix (c % 16) (by omega)
    exact this
theorem hxE_hexT (t : ByteArray) (q : Nat) (h : q < t.size) : hxE (hexT t) (2 * (q : Int)) = (byteAt t q, ()) := by
  obtain ⟨e1, e2⟩ := hx_hexT t q h
  obtain ⟨b1, b2⟩ := byteAt_lt t q
  unfold hxE
  rw [e1, e2, wrap_id (n := 16 * (byteAt t q / 16)) (by omega) (by omega), wrap_id (n := 16 * (byteAt t q / 16) + byteAt t q % 16) (by omega) (by omega), show 16 * (byteAt t q / 16) + byteAt t q % 16 = byteAt t q by omega]
  have : IntKind.u8.wrap (byteAt t q) = byteAt t q := by rw [IntKind.wrap_u8]; omega
  rw [this]
theorem okH_hexT (t : ByteArray) : okH (hexT t) = true := by
  unfold okH
  rw [hexT_size, show ((2 * t.size : Nat) : Int).tmod 2 = 0 by rw [Int.tmod_eq_emod_of_nonneg (by omega)]; omega, show 2 * t.size / 2 = t.size by omega]
  have : anyB t.size (badH (hexT t)) = false := by
    unfold anyB
    rw [List.any_eq_false]
    intro q hq
    obtain ⟨e1, e2⟩ := hx_hexT t q (List.mem_range.1 hq)
    obtain ⟨b1, b2⟩ := byteAt_lt t q
    unfold badH
    rw [e1, e2, decide_eq_false (by omega), decide_eq_false (by omega)]
    simp
  rw [this]
  rfl
theorem strOf_bytes (t : ByteArray) : strOf ((List.range t.size).map fun (q : Nat) => ((byteAt t q, ()) : Elem ku)) = t := by
  apply ByteArray.ext
  apply Array.ext'
  unfold strOf
  simp only [List.map_map]
  apply List.ext_getElem
  · simp
  · intro i h1 h2
    simp only [List.getElem_map, List.getElem_range, Function.comp]
    rw [byteAt_l, List.getD_eq_getElem?_getD, List.getElem?_eq_getElem h2]
    simp
theorem unhR_hexT (t : ByteArray) : unhR (hexT t) = t := by
  unfold unhR
  rw [okH_hexT, hexT_size, show 2 * t.size / 2 = t.size by omega]
  show strOf (unh (hexT t) t.size) = t
  have : unh (hexT t) t.size = (List.range t.size).map fun (q : Nat) => ((byteAt t q, ()) : Elem ku) := by
    unfold unh
    apply List.map_congr_left
    intro q hq
    exact hxE_hexT t q (List.mem_range.1 hq)
  rw [this, strOf_bytes]
noncomputable def E11 : Env := E0.of Tryd.f11
noncomputable def G11 : Gk := gk []
noncomputable def lp11 (n : Nat) : Code := (loopOf n (codeOf Tryd.f11)).getD .skip
noncomputable def ct11 (L : Lp) (R : Option Res → Prop) (n : Nat) : Kt := contOf E11 G11 L n (codeOf Tryd.f11) (endK E11 Tryd.f11.results.toList R)
noncomputable def rk11 (L : Lp) (R : Option Res → Prop) (n : Nat) (N : St → Prop) : Kt := rk (jof E11 (lp11 n)) N (ct11 L R n)
noncomputable def LOOP11 (L : Lp) (R : Option Res → Prop) (n : Nat) (st : St) : Prop := L (lp11 n) st (ct11 L R n)
theorem hg11 : HG Tryd.prog G11 := hg_nil
theorem okf11 : Ok Tryd.prog E11 := ok0.of Tryd.f11
theorem e11 (L : Lp) (R : Option Res → Prop) (t : ByteArray) : (bodyP E0 G11 L Tryd.f11 [.val (.string t)] [] R) = (
    LOOP11 L R 3 { tm := [vS t, vU, vS { data := #[] }, AV.ows 0, vJ, vJ, vI (↑t.size : Int), vI 0, vJ, vJ, vJ, vJ, vJ, vJ, vJ, vJ, vJ, vJ, vJ, vJ, vJ, vJ, vJ, vJ, vU, vU], ob := [(0, AO.row ku [])], nx := 1000000, ps := [] }) := by kernel_rfl
def st11 (t : ByteArray) (i : Int) (xs : List (Elem [.int .u8])) : St :=  ⟨[vS t, vU, vS { data := #[] }, AV.ows 0, vJ, vJ, vI (↑t.size : Int), .val (.int .i64 i), vJ, vJ, vJ, vJ, vJ, vJ, vJ, vJ, vJ, vJ, vJ, vJ, vJ, vJ, vJ, vJ, vU, vU], [(0, .row [.int .u8] xs)], 1000000, []⟩
theorem b11 (L : Lp) (R : Option Res → Prop) (N : St → Prop) (t : ByteArray) (i : Int) (xs : List (Elem [.int .u8])) : (evP E11 G11 L (lp11 3) (st11 t i xs) (rk11 L R 3 N)) = (
    br (decide (i < (↑t.size : Int))) (br (decide (0 ≤ i ∧ i < (↑t.size : Int))) (br (decide (0 ≤ (byteAt t i).fdiv 16 ∧ (byteAt t i).fdiv 16 < 16)) (br (decide (0 ≤ i ∧ i < (↑t.size : Int))) (br (decide (0 ≤ IntKind.u8.wrap (↑(BitVec.ofInt 8 (byteAt t i) &&& BitVec.ofInt 8 15).toNat : Int) ∧ IntKind.u8.wrap (↑(BitVec.ofInt 8 (byteAt t i) &&& BitVec.ofInt 8 15).toNat : Int) < 16)) (br (decide ((xs.length + [(byteAt { data := #[48, 49, 50, 51, 52, 53, 54, 55, 56, 57, 97, 98, 99, 100, 101, 102] } ((byteAt t i).fdiv 16), ()), (byteAt { data := #[48, 49, 50, 51, 52, 53, 54, 55, 56, 57, 97, 98, 99, 100, 101, 102] } (IntKind.u8.wrap (↑(BitVec.ofInt 8 (byteAt t i) &&& BitVec.ofInt 8 15).toNat : Int)), ())].length) * 1 ≤ 140737488355328)) (N { tm := [vS t, vU, vS { data := #[] }, AV.ows 0, vJ, vJ, vI (↑t.size : Int), vI (IntKind.i64.wrap (i + 1)), vJ, vJ, vJ, vJ, vJ, vJ, vJ, vJ, vJ, vJ, vJ, vJ, vJ, vJ, vJ, vJ, vU, vU], ob := [(0, AO.row ku (xs ++ [(byteAt { data := #[48, 49, 50, 51, 52, 53, 54, 55, 56, 57, 97, 98, 99, 100, 101, 102] } ((byteAt t i).fdiv 16), ()), (byteAt { data := #[48, 49, 50, 51, 52, 53, 54, 55, 56, 57, 97, 98, 99, 100, 101, 102] } (IntKind.u8.wrap (↑(BitVec.ofInt 8 (byteAt t i) &&& BitVec.ofInt 8 15).toNat : Int)), ())]))], nx := 1000000, ps := [] }) False) False) False) False) False) (R (some { av := vS (strOf xs), obs := [], outs := [] }))) := by kernel_rfl
theorem tmod_lt' {x : Int} (h0 : 0 ≤ x) : 0 ≤ x.tmod 16 ∧ x.tmod 16 < 16 := by
  rw [Int.tmod_eq_emod_of_nonneg h0]
  omega
theorem low4 : ∀ m : Nat, m < 256 → IntKind.u8.wrap ((BitVec.ofInt 8 (m : Int) &&& BitVec.ofInt 8 15).toNat : Int) = (m : Int).tmod 16 := by decide +kernel
theorem h11 : G1Ok Tryd.prog 11 g11 := by
  intro args obs k h
  unfold g11 at h
  split at h
  · rename_i k t
    obtain ⟨hlen, h⟩ := brd h
    refine ⟨_, ctr_fn ok0 hg11 Tryd.func11 (by kernel_rfl) (by kernel_rfl) (by kernel_rfl) fun C => ?_, h⟩
    rw [e11]
    refine loopUp okf11 hg11 (fun i xs => st11 t i xs) t.size (fun i xs => xs = hexL t i) (fun N i xs hi hx next => ?_) [] rfl
    show evP E11 G11 _ (lp11 3) (st11 t i xs) (rk11 _ _ 3 _)
    obtain ⟨c0, c1⟩ := byteAt_le t i
    have e2 : IntKind.u8.wrap ((BitVec.ofInt 8 (byteAt t i) &&& BitVec.ofInt 8 15).toNat : Int) = (byteAt t i).tmod 16 := by
      obtain ⟨m, hm⟩ : ∃ m : Nat, byteAt t i = m := ⟨(byteAt t i).toNat, by omega⟩
      rw [hm]
      exact low4 m (by omega)
    have e1 : (byteAt t i).fdiv 16 = (byteAt t i).tdiv 16 := by
      rw [Int.tdiv_eq_ediv_of_nonneg c0, Int.fdiv_eq_ediv_of_nonneg _ (by omega)]
    have r1 : 0 ≤ (byteAt t i).tdiv 16 ∧ (byteAt t i).tdiv 16 < 16 := by
      rw [Int.tdiv_eq_ediv_of_nonneg c0]
      omega
    have r2 := tmod_lt' c0
    rw [b11, e2, e1, wrap_id (n := (i : Int) + 1) (by omega) (by omega)]
    refine br_dec (fun h1 => br_yes ⟨by omega, h1⟩ (br_yes r1 (br_yes ⟨by omega, h1⟩ (br_yes r2 (br_yes ?_ ?_))))) (fun h1 => ?_)
    · have : xs.length = 2 * i := by rw [hx]; exact hexL_len t i
      show (xs.length + 2) * 1 ≤ _
      omega
    · refine next (by omega) _ ?_
      rw [hx, hexL_succ]
      rfl
    · show _ = _
      have : i = t.size := by omega
      rw [hx, this]
      rfl
  · exact h.elim
end Go.Proofs.YtkjnijddbiconaaDoor.Ev
