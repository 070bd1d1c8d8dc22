/- Words and numbers: contracts. -/
import Derived.Test.YtkjnijddbiconaaGreatDoorD1
import Derived.Test.YtkjnijddbiconaaGreatDoorEvC
import Derived.Lib.AtoiAllCases
namespace Go.Proofs.YtkjnijddbiconaaGreatDoor.Ev
open Go
set_option linter.unusedVariables false
set_option linter.unusedSimpArgs false
set_option maxRecDepth 100000
set_option maxHeartbeats 1000000
def cutL (s : ByteArray) (c : Int) : List (Elem ks) := (splitW (UInt8.ofNat c.toNat) s.data.toList).map fun w => (⟨w.toArray⟩, ())
def negS (s : ByteArray) : Bool := decide ((s.size : Int) > 0) && (byteAt s 0 == 45)
def digB (t : ByteArray) (i : Nat) : Bool := decide (48 ≤ byteAt t i) && decide (byteAt t i ≤ 57)
def numO (t : ByteArray) (g : Bool) : Bool := decide (1 ≤ t.size) && decide (t.size ≤ 17) && !((byteAt t 0 == 48) && (decide (t.size > 1) || g)) && allB t.size (digB t)
def numV (t : ByteArray) : Nat → Int
  | 0 => 0
  | i + 1 => numV t i * 10 + (byteAt t i - 48)
def numK (s : ByteArray) : Bool := match negS s with
  | true => numO (s.extract 1 s.size) true
  | false => numO s false
def numN (s : ByteArray) : Int := match numK s with
  | false => 0
  | true => match negS s with
    | true => - numV (s.extract 1 s.size) (s.extract 1 s.size).size
    | false => numV s s.size
def txt (ys : List (Elem ks)) : List (List UInt8) := ys.map fun e => e.1.data.toList
theorem txt_inv {ys : List (Elem ks)} {s : ByteArray} {c : Int} (h : txt ys = splitW (UInt8.ofNat c.toNat) s.data.toList) : ys = cutL s c := by
  unfold cutL
  rw [← h]
  unfold txt
  rw [List.map_map]
  have : ((fun w => ((⟨w.toArray⟩ : ByteArray), ())) ∘ fun (e : Elem ks) => e.1.data.toList) = id := by
    funext e
    obtain ⟨⟨⟨l⟩⟩, ⟨⟩⟩ := e
    rfl
  rw [this, List.map_id]
theorem txt_cutL (s : ByteArray) (c : Int) : txt (cutL s c) = splitW (UInt8.ofNat c.toNat) s.data.toList := by
  unfold cutL txt
  rw [List.map_map]
  have : ((fun (e : Elem ks) => e.1.data.toList) ∘ fun (w : List UInt8) => ((⟨w.toArray⟩ : ByteArray), ())) = id := by
    funext w
    rfl
  rw [this, List.map_id]
theorem byteAt_l (s : ByteArray) {i : Nat} (hi : i < s.size) : byteAt s i = ((s.data.toList[i]'hi).toNat : Int) := by
  unfold byteAt
  rw [dif_pos (show ((i : Int)).toNat < s.size from hi)]
  rfl
theorem splitW_len (c : UInt8) : ∀ l, (splitW c l).length ≤ l.length + 1
  | [] => by simp [splitW]
  | b :: l => by
    have := splitW_len c l
    unfold splitW
    split
    · simp only [List.length_cons]; omega
    · unfold consW
      split
      · simp only [List.length_cons, List.length_nil]; omega
      · rename_i hs
        rw [hs] at this
        simp only [List.length_cons] at this ⊢
        omega
theorem num_t0 {s : ByteArray} (h : numK s = true) (hn : negS s = false) : numN s = numV s s.size := by unfold numN; rw [h, hn]
theorem numK_0 {s : ByteArray} (hn : negS s = false) : numK s = numO s false := by unfold numK; rw [hn]
theorem numO_t {t : ByteArray} {g : Bool} (h1 : 1 ≤ t.size) (h2 : t.size ≤ 17) (h3 : ((byteAt t 0 == 48) && (decide (t.size > 1) || g)) = false) (h4 : allB t.size (digB t) = true) : numO t g = true := by
  unfold numO
  rw [decide_eq_true h1, decide_eq_true h2, h3, h4]
  rfl
end Go.Proofs.YtkjnijddbiconaaGreatDoor.Ev
