/- The law of BookName. -/
import Derived.Test.YtkjnijddbiconaaDoorDS
import Derived.Test.YtkjnijddbiconaaDoorShelf
import Derived.Shelf.Strings.SlTrimAscii
namespace Go.Proofs.YtkjnijddbiconaaDoor.Ev
open Go
set_option linter.unusedVariables false
set_option linter.unusedSimpArgs false
set_option maxRecDepth 100000
def abc : ByteArray := ⟨#[97, 98, 99, 100, 101, 102, 103, 104, 105, 106, 107, 108, 109, 110, 111, 112, 113, 114, 115, 116, 117, 118, 119, 120, 121, 122]⟩
def isL (b : UInt8) : Bool := decide (97 ≤ b.toNat) && decide (b.toNat ≤ 122)
def trimT (s : ByteArray) : ByteArray := ⟨((s.data.toList.reverse.dropWhile isL).reverse.dropWhile isL).toArray⟩
def g87 : G1
  | [.val (.string s), .val (.string c)], [], k => br (strEq c abc && decide (s.size ≤ 1048576)) (k ⟨.val (.string (trimT s)), [], []⟩) False
  | _, _, _ => False
def nameOk (t : ByteArray) : Bool := decide (1 ≤ (t.size : Int)) && decide ((t.size : Int) ≤ 6) && allB t.size fun i => decide (97 ≤ byteAt t i) && decide (byteAt t i ≤ 122)
def g43 : G1
  | [.val (.string t)], [], k => br (decide (t.size ≤ 1048576)) (k ⟨.val (.bool (nameOk t)), [], []⟩) False
  | _, _, _ => False
theorem strEq_eq {a b : ByteArray} (h : strEq a b = true) : a = b := by
  unfold strEq at h
  have h := eq_of_beq h
  rw [ByteArray.toList_eq, ByteArray.toList_eq] at h
  apply ByteArray.ext
  apply Array.ext'
  exact h
theorem strEq_nil (a : ByteArray) : strEq a ⟨#[]⟩ = decide (a.data.toList = []) := by
  unfold strEq
  rw [ByteArray.toList_eq, ByteArray.toList_eq, Bool.eq_iff_iff, beq_iff_eq, decide_eq_true_eq]
theorem abc_isL (b : UInt8) : abc.data.toList.contains b = isL b := by
  have hb := b.toNat_lt
  rw [Bool.eq_iff_iff]
  show [97, 98, 99, 100, 101, 102, 103, 104, 105, 106, 107, 108, 109, 110, 111, 112, 113, 114, 115, 116, 117, 118, 119, 120, 121, 122].contains b = true ↔ _
  simp only [List.contains_cons, List.contains_nil, Bool.or_eq_true, beq_iff_eq, isL, Bool.and_eq_true, decide_eq_true_eq, ← UInt8.toNat_inj]
  simp
  omega
theorem dropWhile_head (p : UInt8 → Bool) : ∀ (l : List UInt8) (x : UInt8) (xs : List UInt8), l.dropWhile p = x :: xs → p x = false
  | [], x, xs, h => by simp at h
  | y :: l, x, xs, h => by
    rw [List.dropWhile_cons] at h
    split at h
    · exact dropWhile_head p l x xs h
    · rename_i hp
      cases h
      simpa using hp
theorem dropWhile_nil (p : UInt8 → Bool) : ∀ (l : List UInt8), l.dropWhile p = [] ↔ ∀ x ∈ l, p x = true
  | [] => by simp
  | y :: l => by
    rw [List.dropWhile_cons]
    split
    · rename_i hp
      rw [dropWhile_nil p l]
      simp [hp]
    · rename_i hp
      simp [hp]
theorem trim_nil (p : UInt8 → Bool) (l : List UInt8) : ((l.reverse.dropWhile p).reverse.dropWhile p = []) ↔ l.all p = true := by
  constructor
  · intro h
    cases hd : l.reverse.dropWhile p with
    | nil =>
      rw [dropWhile_nil] at hd
      rw [List.all_eq_true]
      intro x hx
      exact hd x (by simpa using hx)
    | cons x xs =>
      have hx := dropWhile_head p _ _ _ hd
      rw [hd, dropWhile_nil] at h
      have := h x (by simp)
      rw [hx] at this
      cases this
  · intro h
    rw [List.all_eq_true] at h
    have : l.reverse.dropWhile p = [] := (dropWhile_nil p _).2 fun x hx => h x (by simpa using hx)
    rw [this]
    rfl
theorem all_byteAt (t : ByteArray) : t.data.toList.all isL = allB t.size fun i => decide (97 ≤ byteAt t i) && decide (byteAt t i ≤ 122) := by
  have hb : ∀ i (hi : i < t.size), byteAt t i = ((t.data.toList[i]'hi).toNat : Int) := by
    intro i hi
    unfold byteAt
    rw [dif_pos (show ((i : Int)).toNat < t.size from hi)]
    rfl
  rw [Bool.eq_iff_iff, List.all_eq_true]
  constructor
  · intro h
    refine allB_t fun i hi => ?_
    have := h _ (List.getElem_mem (l := t.data.toList) (n := i) hi)
    rw [hb i hi]
    unfold isL at this
    simp only [Bool.and_eq_true, decide_eq_true_eq] at this ⊢
    omega
  · intro h x hx
    obtain ⟨i, hi, rfl⟩ := List.getElem_of_mem hx
    have := allB_at h (i := i) hi
    rw [hb i hi] at this
    unfold isL
    simp only [Bool.and_eq_true, decide_eq_true_eq] at this ⊢
    omega
theorem h87 : G1Ok Tryd.prog 87 g87 := by
  intro args obs k h
  unfold g87 at h
  split at h
  · rename_i k s c
    obtain ⟨hc, hs, h2⟩ := brb2 h
    have hs := of_decide_eq_true hs
    obtain rfl := strEq_eq hc
    refine ⟨_, ctr_plain (us := [.string s, .string abc]) (v := .string (trimT s)) Tryd.func87 (by kernel_rfl) (by kernel_rfl) (fun w ht => ?_), h2⟩
    refine (Any.strings_Trim_laid Tryd.lays160 (by kernel_rfl) s abc w (by omega) (by decide) (ascii_of_all (by decide))).mono fun e w' he => ?_
    obtain ⟨rfl, hb⟩ := he
    refine ⟨?_, quiet_below hb⟩
    unfold trimT Lib.trimS Lib.trimLeftS Lib.trimRightS
    have : (fun b => abc.data.toList.contains b) = isL := funext abc_isL
    rw [this]
  · exact h.elim
noncomputable def E43 : Env := E0.of Tryd.f43
noncomputable def G43 : Gk := gk []
noncomputable def lp43 (n : Nat) : Code := (loopOf n (codeOf Tryd.f43)).getD .skip
noncomputable def ct43 (L : Lp) (R : Option Res → Prop) (n : Nat) : Kt := contOf E43 G43 L n (codeOf Tryd.f43) (endK E43 Tryd.f43.results.toList R)
noncomputable def rk43 (L : Lp) (R : Option Res → Prop) (n : Nat) (N : St → Prop) : Kt := rk (jof E43 (lp43 n)) N (ct43 L R n)
noncomputable def LOOP43 (L : Lp) (R : Option Res → Prop) (n : Nat) (st : St) : Prop := L (lp43 n) st (ct43 L R n)
theorem hg43 : HG Tryd.prog G43 := hg_nil
theorem okf43 : Ok Tryd.prog E43 := ok0.of Tryd.f43
theorem e43 (L : Lp) (R : Option Res → Prop) (t : ByteArray) : (bodyP E0 G43 L Tryd.f43 [.val (.string t)] [] R) = (
    LOOP43 L R 2 { tm := [vS t, vU, vB false, vI 0, vJ, vJ, vJ, vJ, vJ, vJ, vJ, vJ, vJ, vJ, vJ, vJ, vJ, vJ, vJ, vJ, vU, vU, vU, vU, vU, vU, vU, vU], ob := [], nx := 1000000, ps := [] }) := by kernel_rfl
def st43 (t : ByteArray) (i : Int) : St :=  ⟨[vS t, vU, vB false, .val (.int .i64 i), vJ, vJ, vJ, vJ, vJ, vJ, vJ, vJ, vJ, vJ, vJ, vJ, vJ, vJ, vJ, vJ, vU, vU, vU, vU, vU, vU, vU, vU], [], 1000000, []⟩
theorem b43 (L : Lp) (R : Option Res → Prop) (N : St → Prop) (t : ByteArray) (i : Int) : (evP E43 G43 L (lp43 2) (st43 t i) (rk43 L R 2 N)) = (
    br (decide (i < (↑t.size : Int))) (br (decide (0 ≤ i ∧ i < (↑t.size : Int))) (br (decide (byteAt t i < 97)) (R (some { av := vB false, obs := [], outs := [] })) (br (decide (0 ≤ i ∧ i < (↑t.size : Int))) (br (decide (byteAt t i > 122)) (R (some { av := vB false, obs := [], outs := [] })) (N { tm := [vS t, vU, vB false, vI (IntKind.i64.wrap (i + 1)), vJ, vJ, vJ, vJ, vJ, vJ, vJ, vJ, vJ, vJ, vJ, vJ, vJ, vJ, vJ, vJ, vU, vU, vU, vU, vU, vU, vU, vU], ob := [], nx := 1000000, ps := [] })) False)) False) (br (decide ((↑t.size : Int) > 0)) (R (some { av := vB (decide ((↑t.size : Int) ≤ 6)), obs := [], outs := [] })) (R (some { av := vB false, obs := [], outs := [] })))) := by kernel_rfl
theorem h43 : G1Ok Tryd.prog 43 g43 := by
  intro args obs k h
  unfold g43 at h
  split at h
  · rename_i k t
    obtain ⟨hl, h⟩ := brd h
    refine ⟨_, ctr_fn ok0 hg43 Tryd.func43 (by kernel_rfl) (by kernel_rfl) (by kernel_rfl) fun C => ?_, h⟩
    rw [e43]
    refine loopAll okf43 hg43 (fun i => st43 t i) t.size (fun i => decide (97 ≤ byteAt t i) && decide (byteAt t i ≤ 122)) (by omega) (fun N i hi hw next fails done => ?_)
    show evP E43 G43 _ (lp43 2) (st43 t i) (rk43 _ _ 2 _)
    rw [b43, hw]
    have hf : (decide (97 ≤ byteAt t i) && decide (byteAt t i ≤ 122)) = false → i < t.size → nameOk t = false := by
      intro h1 h2
      unfold nameOk
      rw [fails h2 h1, Bool.and_false]
    refine br_dec (fun h2 => br_yes ⟨by omega, h2⟩ (br_dec (fun h3 => ?_) (fun h3 => br_yes ⟨by omega, h2⟩ (br_dec (fun h4 => ?_) (fun h4 => ?_))))) (fun h2 => br_dec (fun h3 => ?_) (fun h3 => ?_))
    · show _ = _
      rw [hf (by rw [decide_eq_false (by omega)]; rfl) (by omega)]
    · show _ = _
      rw [hf (by rw [decide_eq_false (show ¬ byteAt t i ≤ 122 by omega), Bool.and_false]) (by omega)]
    · exact next (by omega) (by rw [decide_eq_true (show 97 ≤ byteAt t i by omega), decide_eq_true (show byteAt t i ≤ 122 by omega)]; rfl)
    · show _ = _
      unfold nameOk
      rw [done (by omega), decide_eq_true (show 1 ≤ (t.size : Int) by omega), Bool.and_true]
      rfl
    · show _ = _
      unfold nameOk
      rw [decide_eq_false (show ¬ 1 ≤ (t.size : Int) by omega)]
      rfl
  · exact h.elim
noncomputable def G60 : Gk := gk [(86, g86), (87, g87)]
theorem hg60 : HG Tryd.prog G60 := (hg_cons h86 (hg_cons h87 hg_nil))
theorem e60 (L : Lp) (R : Option Res → Prop) (t : ByteArray) : (bodyP E0 G60 L Tryd.f60 [.val (.string t)] [] R) = (
    br (decide (1 ≤ (↑t.size : Int)) && decide ((↑t.size : Int) ≤ 6)) (br (true && decide (t.size ≤ 1048576)) (R (some { av := vB (strEq (trimT t) { data := #[] }), obs := [], outs := [] })) False) (R (some { av := vB false, obs := [], outs := [] }))) := by kernel_rfl
theorem trimT_nil (t : ByteArray) : strEq (trimT t) ⟨#[]⟩ = allB t.size fun i => decide (97 ≤ byteAt t i) && decide (byteAt t i ≤ 122) := by
  rw [strEq_nil, ← all_byteAt, Bool.eq_iff_iff, decide_eq_true_eq]
  exact trim_nil isL _
theorem h60 : G1Ok Tryd.prog 60 g43 := by
  intro args obs k h
  unfold g43 at h
  split at h
  · rename_i k t
    obtain ⟨hl, h⟩ := br_and h
    have h0 : strEq abc abc = true := strEq_self _
    refine ⟨_, ctr_fn ok0 hg60 Tryd.func60 (by kernel_rfl) (by kernel_rfl) (by kernel_rfl) fun C => ?_, h⟩
    rw [e60]
    refine br_intro (fun h1 => br_t ?_ ?_) (fun h1 => ?_)
    · rw [hl]
      rfl
    · show _ = _
      unfold nameOk
      rw [h1, Bool.true_and, ← trimT_nil]
    · show _ = _
      unfold nameOk
      rw [h1]
      rfl
  · exact h.elim
end Go.Proofs.YtkjnijddbiconaaDoor.Ev
