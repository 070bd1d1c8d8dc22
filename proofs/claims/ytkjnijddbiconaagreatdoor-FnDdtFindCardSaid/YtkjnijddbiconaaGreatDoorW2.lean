/- Decimal numerals are read as what they are. -/
import Derived.Test.YtkjnijddbiconaaGreatDoorW1
namespace Go.Proofs.YtkjnijddbiconaaGreatDoor.Ev
open Go
set_option linter.unusedVariables false
set_option linter.unusedSimpArgs false
set_option maxRecDepth 100000
set_option maxHeartbeats 1000000
theorem decD_lt {u : Nat} (h : u < 10) : decD u = [UInt8.ofNat (48 + u)] := by rw [decD, dif_pos h]
theorem decD_ge {u : Nat} (h : ¬ u < 10) : decD u = decD (u / 10) ++ [UInt8.ofNat (48 + u % 10)] := by rw [decD, dif_neg h]
theorem dg_nat {d : Nat} (h : d < 10) : (UInt8.ofNat (48 + d)).toNat = 48 + d := by
  show (48 + d) % 256 = _
  omega
theorem decD_dig (u : Nat) : ∀ b ∈ decD u, 48 ≤ b.toNat ∧ b.toNat ≤ 57 := by
  induction u using Nat.strongRecOn with
  | ind u ih =>
    intro b hb
    by_cases h : u < 10
    · rw [decD_lt h] at hb
      simp only [List.mem_singleton] at hb
      rw [hb, dg_nat h]
      omega
    · rw [decD_ge h] at hb
      rcases List.mem_append.1 hb with hb | hb
      · exact ih (u / 10) (by omega) b hb
      · simp only [List.mem_singleton] at hb
        rw [hb, dg_nat (Nat.mod_lt _ (by decide))]
        omega
theorem decD_ne (u : Nat) : decD u ≠ [] := by
  by_cases h : u < 10
  · rw [decD_lt h]; simp
  · rw [decD_ge h]; simp
theorem decD_short : ∀ (k u : Nat), u < 10 ^ (k + 1) → (decD u).length ≤ k + 1
  | 0, u, h => by
    rw [decD_lt (by simpa using h)]
    simp
  | k + 1, u, h => by
    by_cases h1 : u < 10
    · rw [decD_lt h1]; simp
    · have : u / 10 < 10 ^ (k + 1) := by
        rw [Nat.pow_succ] at h
        omega
      have := decD_short k (u / 10) this
      rw [decD_ge h1, List.length_append, List.length_cons, List.length_nil]
      omega
/-- The first digit of a number that is not 0 is not 0. -/
theorem decD_head (u : Nat) : 1 ≤ u → ∃ b r, decD u = b :: r ∧ 49 ≤ b.toNat := by
  induction u using Nat.strongRecOn with
  | ind u ih =>
    intro hu
    by_cases h : u < 10
    · exact ⟨_, _, decD_lt h, by rw [dg_nat h]; omega⟩
    · obtain ⟨b, r, e, hb⟩ := ih (u / 10) (by omega) (by omega)
      exact ⟨b, r ++ [UInt8.ofNat (48 + u % 10)], by rw [decD_ge h, e]; rfl, hb⟩
theorem parse_dec (u : Nat) : u < 1000000000000000 → ∀ r, Lib.parseUint10 0 (decD u ++ r) = Lib.parseUint10 u r := by
  induction u using Nat.strongRecOn with
  | ind u ih =>
    intro hu r
    by_cases h : u < 10
    · rw [decD_lt h, List.cons_append, List.nil_append, Lib.parseUint10, dg_nat h, if_pos ⟨by omega, by omega⟩, if_neg (by omega), if_neg (by omega)]
      congr 1
      omega
    · rw [decD_ge h, List.append_assoc, ih (u / 10) (by omega) (by omega), List.cons_append, List.nil_append, Lib.parseUint10, dg_nat (Nat.mod_lt _ (by decide)), if_pos ⟨by omega, by omega⟩, if_neg (by omega), if_neg (by omega)]
      congr 1
      omega
theorem atoi_dec {u : Nat} (hu : u < 1000000000000000) : Lib.atoiAll (decD u) = .ok (u : Int) := by
  have hp := parse_dec u hu []
  rw [List.append_nil] at hp
  cases hd : decD u with
  | nil => exact absurd hd (decD_ne u)
  | cons c r =>
    have hc := decD_dig u c (by rw [hd]; simp)
    rw [Lib.atoiAll_plain c r (by omega) (by omega), ← hd]
    unfold Lib.parseMag
    rw [if_neg (decD_ne u), hp]
    simp only [Lib.parseUint10, Lib.signless]
    rw [if_neg (by omega)]
theorem dec_data {n : Int} (h : 0 ≤ n) : (dec n).data.toList = decD n.toNat := by
  unfold dec
  rw [decide_eq_false (show ¬ n < 0 by omega)]
theorem dec_sz {n : Int} (h : 0 ≤ n) (h2 : n < 1000000000000000) : 1 ≤ (dec n).size ∧ (dec n).size ≤ 15 := by
  have e : (dec n).size = (decD n.toNat).length := by rw [← dec_data h]; rfl
  have h1 := decD_short 14 n.toNat (by
    have : (10 : Nat) ^ (14 + 1) = 1000000000000000 := by decide
    omega)
  have h3 := List.length_pos_iff.2 (decD_ne n.toNat)
  omega
def atK (s : ByteArray) : Bool := match Lib.atoiAll s.data.toList with | .ok _ => true | _ => false
def atN (s : ByteArray) : Int := match Lib.atoiAll s.data.toList with | .ok v => v | .range => Lib.atoiSat s.data.toList | _ => 0
theorem at_dec {n : Int} (h : 0 ≤ n) (h2 : n < 1000000000000000) : atK (dec n) = true ∧ atN (dec n) = n := by
  have := atoi_dec (u := n.toNat) (by omega)
  unfold atK atN
  rw [dec_data h, this]
  refine ⟨rfl, ?_⟩
  show ((n.toNat : Nat) : Int) = n
  omega
theorem numV_take (t : ByteArray) : ∀ i, i ≤ t.size → numV t i = (t.data.toList.take i).foldl (fun (a : Int) b => a * 10 + ((b.toNat : Int) - 48)) 0
  | 0, _ => rfl
  | i + 1, h => by
    rw [numV, numV_take t i (by omega), List.take_add_one, List.getElem?_eq_getElem (show i < t.data.toList.length from h), List.foldl_append, byteAt_l t (by omega)]
    rfl
theorem fold_dec (u : Nat) : (decD u).foldl (fun (a : Int) b => a * 10 + ((b.toNat : Int) - 48)) 0 = u := by
  induction u using Nat.strongRecOn with
  | ind u ih =>
    by_cases h : u < 10
    · rw [decD_lt h]
      simp only [List.foldl_cons, List.foldl_nil]
      rw [dg_nat h]
      omega
    · rw [decD_ge h, List.foldl_append, ih (u / 10) (by omega)]
      simp only [List.foldl_cons, List.foldl_nil]
      rw [dg_nat (Nat.mod_lt _ (by decide))]
      omega
theorem num_dec {n : Int} (h : 0 ≤ n) (h2 : n < 1000000000000000) : numK (dec n) = true ∧ numN (dec n) = n := by
  have hs := dec_sz h h2
  have hd := dec_data h
  have hdig : ∀ i, (hi : i < (dec n).size) → 48 ≤ byteAt (dec n) i ∧ byteAt (dec n) i ≤ 57 := by
    intro i hi
    rw [byteAt_l _ hi]
    have := decD_dig n.toNat ((dec n).data.toList[i]'hi) (by rw [← hd]; exact List.getElem_mem _)
    omega
  have h0 := hdig 0 (by omega)
  have hn : negS (dec n) = false := by
    unfold negS
    have : byteAt (dec n) 0 ≠ 45 := by have := h0.1; show byteAt (dec n) ((0 : Nat) : Int) ≠ 45; omega
    rw [show (byteAt (dec n) 0 == 45) = false from beq_eq_false_iff_ne.2 this, Bool.and_false]
  have hz : ((byteAt (dec n) 0 == 48) && (decide ((dec n).size > 1) || false)) = false := by
    by_cases hu : 1 ≤ n.toNat
    · obtain ⟨b, r, e, hb⟩ := decD_head n.toNat hu
      have e2 : byteAt (dec n) ((0 : Nat) : Int) = b.toNat := by
        rw [byteAt_l _ (by omega)]
        have : (dec n).data.toList = b :: r := by rw [hd, e]
        simp only [this, List.getElem_cons_zero]
      have : byteAt (dec n) 0 ≠ 48 := by show byteAt (dec n) ((0 : Nat) : Int) ≠ 48; omega
      rw [show (byteAt (dec n) 0 == 48) = false from beq_eq_false_iff_ne.2 this]
      rfl
    · have e : (dec n).size = 1 := by
        have e1 : (dec n).size = (decD n.toNat).length := by rw [← hd]; rfl
        rw [e1, decD_lt (by omega)]
        rfl
      rw [e]
      simp
  have ha : allB (dec n).size (digB (dec n)) = true := allB_t fun i hi => by
    have := hdig i hi
    unfold digB
    rw [decide_eq_true this.1, decide_eq_true this.2]
    rfl
  have hK : numK (dec n) = true := by rw [numK_0 hn]; exact numO_t (by omega) (by omega) hz ha
  refine ⟨hK, ?_⟩
  rw [num_t0 hK hn, numV_take _ _ (Nat.le_refl _), List.take_of_length_le (show (dec n).data.toList.length ≤ (dec n).size from Nat.le_refl _), hd, fold_dec]
  omega
theorem dec_free {n : Int} (h : 0 ≤ n) {c : UInt8} (hc : c.toNat < 48) : c ∉ (dec n).data.toList := by
  intro hm
  rw [dec_data h] at hm
  have := decD_dig _ _ hm
  omega
end Go.Proofs.YtkjnijddbiconaaGreatDoor.Ev
