/- The law of SumOpen. -/
import Derived.Test.YtkjnijddbiconaaDoorDT
import Derived.Lib.Bytealg
import Derived.Lib.IndexBytes
namespace Go.Proofs.YtkjnijddbiconaaDoor.Ev
open Go
set_option linter.unusedVariables false
set_option linter.unusedSimpArgs false
set_option maxRecDepth 100000
def ixB (t : ByteArray) (b : Int) : Int := fIx t.size fun i => byteAt t i == b
def g36 : G1
  | [.val (.string t), .val (.int .u8 b)], [], k => br (decide (t.size ≤ 1048576) && (decide (0 ≤ b) && decide (b ≤ 255))) (k ⟨.val (.int .i64 (ixB t b)), [], []⟩) False
  | _, _, _ => False
noncomputable def E36 : Env := E0.of Tryd.f36
noncomputable def G36 : Gk := gk []
noncomputable def lp36 (n : Nat) : Code := (loopOf n (codeOf Tryd.f36)).getD .skip
noncomputable def ct36 (L : Lp) (R : Option Res → Prop) (n : Nat) : Kt := contOf E36 G36 L n (codeOf Tryd.f36) (endK E36 Tryd.f36.results.toList R)
noncomputable def rk36 (L : Lp) (R : Option Res → Prop) (n : Nat) (N : St → Prop) : Kt := rk (jof E36 (lp36 n)) N (ct36 L R n)
noncomputable def LOOP36 (L : Lp) (R : Option Res → Prop) (n : Nat) (st : St) : Prop := L (lp36 n) st (ct36 L R n)
theorem hg36 : HG Tryd.prog G36 := hg_nil
theorem okf36 : Ok Tryd.prog E36 := ok0.of Tryd.f36
theorem e36 (L : Lp) (R : Option Res → Prop) (t : ByteArray) (b : Int) : (bodyP E0 G36 L Tryd.f36 [.val (.string t), .val (.int .u8 b)] [] R) = (
    LOOP36 L R 2 { tm := [vS t, AV.val (Value.int IntKind.u8 b), vU, vU, vI 0, vI 0, vJ, vJ, vJ, vJ, vJ, vJ, vJ, vJ, vJ, vJ, vJ, vJ], ob := [], nx := 1000000, ps := [] }) := by kernel_rfl
def st36 (t : ByteArray) (b i : Int) : St :=  ⟨[vS t, AV.val (Value.int IntKind.u8 b), vU, vU, vI 0, .val (.int .i64 i), vJ, vJ, vJ, vJ, vJ, vJ, vJ, vJ, vJ, vJ, vJ, vJ], [], 1000000, []⟩
theorem b36 (L : Lp) (R : Option Res → Prop) (N : St → Prop) (t : ByteArray) (b i : Int) : (evP E36 G36 L (lp36 2) (st36 t b i) (rk36 L R 2 N)) = (
    br (decide (i < (↑t.size : Int))) (br (decide (0 ≤ i ∧ i < (↑t.size : Int))) (br (byteAt t i == b) (R (some { av := vI i, obs := [], outs := [] })) (N { tm := [vS t, AV.val (Value.int IntKind.u8 b), vU, vU, vI 0, vI (IntKind.i64.wrap (i + 1)), vJ, vJ, vJ, vJ, vJ, vJ, vJ, vJ, vJ, vJ, vJ, vJ], ob := [], nx := 1000000, ps := [] })) False) (R (some { av := vI (-1), obs := [], outs := [] }))) := by kernel_rfl
theorem h36 : G1Ok Tryd.prog 36 g36 := by
  intro args obs k h
  unfold g36 at h
  split at h
  · rename_i k t b
    obtain ⟨hp, h⟩ := br_and h
    simp only [Bool.and_eq_true, decide_eq_true_eq] at hp
    refine ⟨_, ctr_fn ok0 hg36 Tryd.func36 (by kernel_rfl) (by kernel_rfl) (by kernel_rfl) fun C => ?_, h⟩
    rw [e36]
    exact loopFind okf36 hg36 (fun i => st36 t b i) t.size (fun i => byteAt t i == b) (by omega) (fun N i hi hw next found none => by
      show evP E36 G36 _ (lp36 2) (st36 t b i) (rk36 _ _ 2 _)
      rw [b36, hw]
      refine br_dec (fun h2 => br_yes ⟨by omega, h2⟩ (br_intro (fun h3 => ?_) (fun h3 => ?_))) (fun h2 => ?_)
      · show _ = _
        rw [show ixB t b = i from found (by omega) h3]
      · exact next (by omega) h3
      · show _ = _
        rw [show ixB t b = -1 from none (by omega)])
  · exact h.elim
theorem firstIdx_ix (t : ByteArray) {b : Int} (h0 : 0 ≤ b) (h1 : b ≤ 255) : firstIdx t b.toNat.toUInt8 = ixB t b := by
  unfold firstIdx ixB fIx
  have e : ((List.range t.size).find? fun i => t[i]! == b.toNat.toUInt8) = (List.range t.size).find? fun (i : Nat) => byteAt t i == b := by
    refine Lib.find_congr fun i hi => ?_
    have hi : i < t.size := by simpa using hi
    have e1 : t[i]! = t[i] := getElem!_pos t i hi
    have e2 : byteAt t i = ((t[i]'hi).toNat : Int) := by
      unfold byteAt
      rw [dif_pos (show ((i : Int)).toNat < t.size from hi)]
      rfl
    rw [e1, e2, Bool.eq_iff_iff, beq_iff_eq, beq_iff_eq, ← UInt8.toNat_inj]
    have : (b.toNat.toUInt8).toNat = b.toNat := by
      show b.toNat % 256 = b.toNat
      omega
    rw [this]
    omega
  rw [e]
  cases List.find? (fun (i : Nat) => byteAt t i == b) (List.range t.size) <;> rfl
def cutH (s : ByteArray) (b : Int) : ByteArray := match decide (0 ≤ ixB s b) with
  | true => s.extract 0 (ixB s b).toNat
  | false => s
def cutZ (s : ByteArray) (b : Int) : ByteArray := match decide (0 ≤ ixB s b) with
  | true => s.extract ((ixB s b).toNat + 1) s.size
  | false => ByteArray.empty
def g31 : G1
  | [.val (.string s), .val (.string p)], [], k => br (decide (s.size ≤ 2097152) && decide (p.size = 1)) (k ⟨.tup [.val (.string (cutH s (byteAt p 0))), .val (.string (cutZ s (byteAt p 0))), .val (.bool (decide (0 ≤ ixB s (byteAt p 0))))], [], []⟩) False
  | _, _, _ => False
theorem bytes_one {p : ByteArray} (h : p.size = 1) : p = ⟨#[p.data[0]!]⟩ ∧ byteAt p 0 = ((p.data[0]!).toNat : Int) := by
  obtain ⟨⟨l⟩⟩ := p
  have h : l.length = 1 := h
  match l, h with
  | [c], _ => exact ⟨rfl, rfl⟩
theorem R_tup3 {S : Sb} {σ : Sg} (a b c : Value) : R S σ (.tup [.val a, .val b, .val c]) (.tuple #[a, b, c]) := by
  refine R.tup _ [a, b, c] rfl fun j u v hu hv => ?_
  match j with
  | 0 => simp at hu hv; subst hu; subst hv; exact .val _
  | 1 => simp at hu hv; subst hu; subst hv; exact .val _
  | 2 => simp at hu hv; subst hu; subst hv; exact .val _
  | j + 3 => simp at hu
theorem extract_take (s : ByteArray) (i : Nat) : (⟨(s.data.toList.take i).toArray⟩ : ByteArray) = s.extract 0 i := by
  apply ByteArray.ext
  rw [ByteArray.data_extract]
  apply Array.ext'
  rw [Array.toList_extract]
  show s.data.toList.take i = (s.data.toList.drop 0).take (i - 0)
  rw [List.drop_zero, Nat.sub_zero]
theorem extract_drop (s : ByteArray) (i : Nat) : (⟨(s.data.toList.drop i).toArray⟩ : ByteArray) = s.extract i s.size := by
  apply ByteArray.ext
  rw [ByteArray.data_extract]
  apply Array.ext'
  rw [Array.toList_extract]
  show s.data.toList.drop i = (s.data.toList.drop i).take (s.size - i)
  rw [List.take_of_length_le]
  rw [List.length_drop]
  exact Nat.le_refl _
theorem h31 : G1Ok Tryd.prog 31 g31 := by
  intro args obs k h
  unfold g31 at h
  split at h
  · rename_i k s p
    obtain ⟨hp, h⟩ := br_and h
    simp only [Bool.and_eq_true, decide_eq_true_eq] at hp
    obtain ⟨hp1, hp2⟩ := bytes_one hp.2
    generalize hc : p.data[0]! = c at hp1 hp2
    subst hp1
    have hb := c.toNat_lt
    have ei : Lib.index s.data.toList [c] = ixB s (byteAt ⟨#[c]⟩ 0) := by
      rw [Lib.index_one, ← Lib.firstIdx_eq, hp2, ← firstIdx_ix s (b := (c.toNat : Int)) (by omega) (by omega)]
      congr 1
      apply UInt8.toNat_inj.1
      show c.toNat = c.toNat % 256
      omega
    refine ⟨_, ctr_lib (args := [.val (.string s), .val (.string ⟨#[c]⟩)]) Tryd.func31 (by kernel_rfl) (by kernel_rfl) (fun S π w vs hR hS ht => ?_), h⟩
    obtain rfl : vs = [.string s, .string ⟨#[c]⟩] := RL_vals_eq (vs := [.string s, .string ⟨#[c]⟩]) hR
    obtain ⟨m, hm⟩ := ht.2.1
    refine (Tryd.strings_Cut s ⟨#[c]⟩ m w (by omega) hm).mono fun e w' he => ?_
    obtain ⟨rfl, n, rfl⟩ := he
    refine ⟨_, rfl, ?_, quiet_drew w n⟩
    have ec : Lib.cut s.data.toList [c] = if 0 ≤ ixB s (byteAt ⟨#[c]⟩ 0) then (s.data.toList.take (ixB s (byteAt ⟨#[c]⟩ 0)).toNat, s.data.toList.drop ((ixB s (byteAt ⟨#[c]⟩ 0)).toNat + 1), true) else (s.data.toList, [], false) := by
      unfold Lib.cut
      rw [ei]
      rfl
    have e3 : (Lib.cut s.data.toList [c]).2.2 = decide (0 ≤ ixB s (byteAt ⟨#[c]⟩ 0)) := by
      rw [ec]
      by_cases h0 : 0 ≤ ixB s (byteAt ⟨#[c]⟩ 0)
      · rw [if_pos h0, decide_eq_true h0]
      · rw [if_neg h0, decide_eq_false h0]
    have e1 : (⟨(Lib.cut s.data.toList [c]).1.toArray⟩ : ByteArray) = cutH s (byteAt ⟨#[c]⟩ 0) := by
      unfold cutH
      rw [ec]
      by_cases h0 : 0 ≤ ixB s (byteAt ⟨#[c]⟩ 0)
      · rw [if_pos h0, decide_eq_true h0]
        exact extract_take s _
      · rw [if_neg h0, decide_eq_false h0]
    have e2 : (⟨(Lib.cut s.data.toList [c]).2.1.toArray⟩ : ByteArray) = cutZ s (byteAt ⟨#[c]⟩ 0) := by
      unfold cutZ
      rw [ec]
      by_cases h0 : 0 ≤ ixB s (byteAt ⟨#[c]⟩ 0)
      · rw [if_pos h0, decide_eq_true h0]
        exact extract_drop s _
      · rw [if_neg h0, decide_eq_false h0]
        rfl
    show R S π (.tup [.val _, .val _, .val _]) (.tuple #[.string ⟨(Lib.cut s.data.toList [c]).1.toArray⟩, .string ⟨(Lib.cut s.data.toList [c]).2.1.toArray⟩, .bool (Lib.cut s.data.toList [c]).2.2])
    rw [e1, e2, e3]
    exact R_tup3 _ _ _
  · exact h.elim
def opnK (s : ByteArray) : Bool := decide (0 ≤ ixB s 58) && strEq (sealT (cutZ s 58)) s
def opnT (s : ByteArray) : ByteArray := match opnK s with
  | true => cutZ s 58
  | false => ByteArray.empty
def g15 : G1
  | [.val (.string s)], [], k => br (decide (s.size ≤ 1048576)) (k ⟨.tup [.val (.string (opnT s)), .val (.bool (opnK s))], [], []⟩) False
  | _, _, _ => False
noncomputable def G15 : Gk := gk [(36, g36), (13, g13)]
theorem hg15 : HG Tryd.prog G15 := (hg_cons h36 (hg_cons h13 hg_nil))
theorem e15 (L : Lp) (R : Option Res → Prop) (s : ByteArray) : (bodyP E0 G15 L Tryd.f15 [.val (.string s)] [] R) = (
    br (decide (s.size ≤ 1048576) && true) (br (decide (ixB s 58 < 0)) (R (some { av := AV.tup [vS { data := #[] }, vB false], obs := [], outs := [] })) (br (decide (0 ≤ IntKind.i64.wrap (ixB s 58 + 1) ∧ IntKind.i64.wrap (ixB s 58 + 1) ≤ (↑s.size : Int) ∧ (↑s.size : Int) ≤ (↑s.size : Int))) (br (decide ((s.extract (IntKind.i64.wrap (ixB s 58 + 1)).toNat (↑s.size : Int).toNat).size ≤ 4611686018427387904)) (br (!strEq (sealT (s.extract (IntKind.i64.wrap (ixB s 58 + 1)).toNat (↑s.size : Int).toNat)) s) (R (some { av := AV.tup [vS { data := #[] }, vB false], obs := [], outs := [] })) (br (decide (0 ≤ IntKind.i64.wrap (ixB s 58 + 1) ∧ IntKind.i64.wrap (ixB s 58 + 1) ≤ (↑s.size : Int) ∧ (↑s.size : Int) ≤ (↑s.size : Int))) (R (some { av := AV.tup [vS (s.extract (IntKind.i64.wrap (ixB s 58 + 1)).toNat (↑s.size : Int).toNat), vB true], obs := [], outs := [] })) False)) False) False)) False) := by kernel_rfl
noncomputable def G10 : Gk := gk [(31, g31), (9, g13)]
theorem hg10 : HG Tryd.prog G10 := (hg_cons h31 (hg_cons h9 hg_nil))
theorem e10 (L : Lp) (R : Option Res → Prop) (s : ByteArray) : (bodyP E0 G10 L Tryd.f10 [.val (.string s)] [] R) = (
    br (decide (s.size ≤ 2097152) && true) (br (!decide (0 ≤ ixB s 58)) (R (some { av := AV.tup [vS { data := #[] }, vB false], obs := [], outs := [] })) (br (decide ((cutZ s 58).size ≤ 4611686018427387904)) (br (!strEq (sealT (cutZ s 58)) s) (R (some { av := AV.tup [vS { data := #[] }, vB false], obs := [], outs := [] })) (R (some { av := AV.tup [vS (cutZ s 58), vB true], obs := [], outs := [] }))) False)) False) := by kernel_rfl
theorem cutZ_size (s : ByteArray) (b : Int) : (cutZ s b).size ≤ s.size := by
  unfold cutZ
  split
  · rw [ByteArray.size_extract]
    omega
  · exact Nat.zero_le _
theorem ixB_lt (s : ByteArray) (b : Int) : -1 ≤ ixB s b ∧ ixB s b < s.size ∨ ixB s b = -1 := by
  unfold ixB fIx
  cases h : List.find? (fun (i : Nat) => byteAt s i == b) (List.range s.size) with
  | none => right; rfl
  | some i =>
    left
    have := List.mem_range.1 (List.mem_of_find?_eq_some h)
    show -1 ≤ (i : Int) ∧ (i : Int) < s.size
    omega
theorem h10 : G1Ok Tryd.prog 10 g15 := by
  intro args obs k h
  unfold g15 at h
  split at h
  · rename_i k s
    obtain ⟨hs, h⟩ := br_and h
    have hs' := of_decide_eq_true hs
    have hz := cutZ_size s 58
    refine ⟨_, ctr_fn ok0 hg10 Tryd.func10 (by kernel_rfl) (by kernel_rfl) (by kernel_rfl) fun C => ?_, h⟩
    rw [e10]
    refine br_t (by rw [decide_eq_true (show s.size ≤ 2097152 by omega)]; rfl) (br_not (fun h1 => ?_) (fun h1 => br_yes (by omega) (br_not (fun h2 => ?_) (fun h2 => ?_))))
    · have e : opnK s = false := by
        unfold opnK
        rw [h1]
        rfl
      show _ = _
      unfold opnT
      rw [e]
      rfl
    · have e : opnK s = false := by
        unfold opnK
        rw [h2, Bool.and_false]
      show _ = _
      unfold opnT
      rw [e]
      rfl
    · have e : opnK s = true := by
        unfold opnK
        rw [h1, h2]
        rfl
      show _ = _
      unfold opnT
      rw [e]
  · exact h.elim
theorem h15 : G1Ok Tryd.prog 15 g15 := by
  intro args obs k h
  unfold g15 at h
  split at h
  · rename_i k s
    obtain ⟨hs, h⟩ := br_and h
    have hs' := of_decide_eq_true hs
    have hz := cutZ_size s 58
    have hx := ixB_lt s 58
    refine ⟨_, ctr_fn ok0 hg15 Tryd.func15 (by kernel_rfl) (by kernel_rfl) (by kernel_rfl) fun C => ?_, h⟩
    rw [e15]
    rw [wrap_id (n := ixB s 58 + 1) (by omega) (by omega), Int.toNat_natCast]
    refine br_t (by rw [hs]; rfl) (br_dec (fun h1 => ?_) (fun h1 => br_yes ⟨by omega, by omega, by omega⟩ ?_))
    · have e : opnK s = false := by
        unfold opnK
        rw [decide_eq_false (show ¬ 0 ≤ ixB s 58 by omega)]
        rfl
      show _ = _
      unfold opnT
      rw [e]
      rfl
    have e1 : s.extract (ixB s 58 + 1).toNat s.size = cutZ s 58 := by
      unfold cutZ
      rw [decide_eq_true (show 0 ≤ ixB s 58 by omega), show (ixB s 58 + 1).toNat = (ixB s 58).toNat + 1 from by omega]
    rw [e1]
    refine br_yes (by omega) (br_not (fun h2 => ?_) (fun h2 => br_yes ⟨by omega, by omega, by omega⟩ ?_))
    · have e : opnK s = false := by
        unfold opnK
        rw [h2, Bool.and_false]
      show _ = _
      unfold opnT
      rw [e]
      rfl
    · have e : opnK s = true := by
        unfold opnK
        rw [decide_eq_true (show 0 ≤ ixB s 58 by omega), h2]
        rfl
      show _ = _
      unfold opnT
      rw [e]
  · exact h.elim
/-! One byte turned. -/
theorem sum_step_ne {a b c d : Int} (ha : 0 ≤ a) (ha' : a ≤ 65520) (hb : 0 ≤ b) (hb' : b ≤ 65520) (hc : 0 ≤ c) (hc' : c ≤ 255) (hd : 0 ≤ d) (hd' : d ≤ 255) (h : a = b ∧ c ≠ d ∨ a ≠ b ∧ c = d) :
    (257 * a + c + 1).tmod 65521 ≠ (257 * b + d + 1).tmod 65521 := by
  rw [Int.tmod_eq_emod_of_nonneg (by omega), Int.tmod_eq_emod_of_nonneg (by omega)]
  intro e
  rcases h with ⟨h1, h2⟩ | ⟨h1, h2⟩
  · subst h1; omega
  · subst h2; omega
theorem sum_ne {s t : ByteArray} {k : Nat} (hsz : s.size = t.size) (hk : k < s.size) (heq : ∀ i : Nat, i ≠ k → byteAt s i = byteAt t i) (hne : byteAt s k ≠ byteAt t k) : sumN s ≠ sumN t := by
  have h0 : ∀ i : Nat, i ≤ k → sumL s i = sumL t i := by
    intro i hi
    induction i with
    | zero => show 1 + (s.size : Int).tmod 997 = 1 + (t.size : Int).tmod 997; rw [hsz]
    | succ i ih =>
      show (257 * sumL s i + byteAt s i + 1).tmod 65521 = (257 * sumL t i + byteAt t i + 1).tmod 65521
      rw [ih (by omega), heq i (by omega)]
  have h1 : ∀ j : Nat, sumL s (k + 1 + j) ≠ sumL t (k + 1 + j) := by
    intro j
    induction j with
    | zero =>
      obtain ⟨a1, a2⟩ := sumL_lt s k
      obtain ⟨b1, b2⟩ := sumL_lt t k
      obtain ⟨c1, c2⟩ := byteAt_lt s k
      obtain ⟨d1, d2⟩ := byteAt_lt t k
      exact sum_step_ne a1 a2 b1 b2 c1 c2 d1 d2 (.inl ⟨h0 k (Nat.le_refl _), hne⟩)
    | succ j ih =>
      obtain ⟨a1, a2⟩ := sumL_lt s (k + 1 + j)
      obtain ⟨b1, b2⟩ := sumL_lt t (k + 1 + j)
      obtain ⟨c1, c2⟩ := byteAt_lt s ((k + 1 + j : Nat) : Int)
      obtain ⟨d1, d2⟩ := byteAt_lt t ((k + 1 + j : Nat) : Int)
      exact sum_step_ne a1 a2 b1 b2 c1 c2 d1 d2 (.inr ⟨ih, heq (k + 1 + j) (by omega)⟩)
  have := h1 (s.size - (k + 1))
  rw [show k + 1 + (s.size - (k + 1)) = s.size from by omega] at this
  unfold sumN
  rw [← hsz]
  exact this
/-! New -/
theorem strEq_eq {a b : ByteArray} (h : strEq a b = true) : a = b := by
  unfold strEq at h
  have h := eq_of_beq h
  rw [ByteArray.toList_eq, ByteArray.toList_eq] at h
  apply ByteArray.ext
  apply Array.ext'
  exact h
theorem byteAt_l (s : ByteArray) (i : Nat) : byteAt s i = ((s.data.toList.getD i 0).toNat : Int) := by
  unfold byteAt
  split
  · rename_i h
    have h : i < s.data.toList.length := h
    rw [List.getD_eq_getElem?_getD, List.getElem?_eq_getElem h]
    rfl
  · rename_i h
    have h : ¬ i < s.data.toList.length := h
    rw [List.getD_eq_getElem?_getD, List.getElem?_eq_none (by omega)]
    rfl
theorem decD_ne (u : Nat) : ∀ b ∈ decD u, 48 ≤ b.toNat ∧ b.toNat ≤ 57 := by
  induction u using decD.induct with
  | case1 u h =>
    rw [decD, dif_pos h]
    intro b hb
    obtain rfl := List.mem_singleton.1 hb
    show 48 ≤ (48 + u) % 256 ∧ (48 + u) % 256 ≤ 57
    omega
  | case2 u h ih =>
    rw [decD, dif_neg h]
    intro b hb
    rcases List.mem_append.1 hb with hb | hb
    · exact ih b hb
    · obtain rfl := List.mem_singleton.1 hb
      show 48 ≤ (48 + u % 10) % 256 ∧ (48 + u % 10) % 256 ≤ 57
      omega
theorem ixB_first {s : ByteArray} {a t : List UInt8} {c : UInt8} (h : s.data.toList = a ++ c :: t) (ha : c ∉ a) : ixB s (c.toNat : Int) = a.length := by
  unfold ixB fIx
  have hl : s.size = a.length + (t.length + 1) := by
    have := congrArg List.length h
    simpa using this
  have : (List.range s.size).find? (fun (i : Nat) => byteAt s i == (c.toNat : Int)) = some a.length := by
    rw [List.find?_range_eq_some]
    refine ⟨?_, List.mem_range.2 (by omega), fun j hj => ?_⟩
    · rw [byteAt_l, h, List.getD_eq_getElem?_getD, List.getElem?_append_right (Nat.le_refl _)]
      simp
    · rw [byteAt_l, h, List.getD_eq_getElem?_getD, List.getElem?_append_left hj, List.getElem?_eq_getElem hj]
      have hm : a[j] ∈ a := List.getElem_mem hj
      simp only [Option.getD_some, Bool.not_eq_true', beq_eq_false_iff_ne, ne_eq]
      intro e
      have : a[j].toNat = c.toNat := by omega
      exact ha (UInt8.toNat_inj.1 this ▸ hm)
  rw [this]
theorem cutZ_first {s : ByteArray} {a t : List UInt8} {c : UInt8} (h : s.data.toList = a ++ c :: t) (ha : c ∉ a) : cutZ s (c.toNat : Int) = ⟨t.toArray⟩ := by
  unfold cutZ
  rw [ixB_first h ha, decide_eq_true (by omega)]
  show s.extract (((a.length : Nat) : Int).toNat + 1) s.size = _
  rw [Int.toNat_natCast, ← extract_drop, h]
  congr 2
  rw [← List.singleton_append, ← List.append_assoc, List.drop_left' (by simp)]
theorem seal_list {t : ByteArray} (h : t.size ≤ 400) : ∃ a : List UInt8, (58 : UInt8) ∉ a ∧ (sealT t).data.toList = a ++ 58 :: t.data.toList ∧ sealT t = dec (sumN t) ++ ⟨#[58]⟩ ++ t := by
  obtain ⟨h1, h2⟩ := sumN_lt t
  obtain ⟨m, hm⟩ : ∃ m : Nat, sumN t = m := ⟨(sumN t).toNat, by omega⟩
  have e : sealT t = dec (sumN t) ++ ⟨#[58]⟩ ++ t := by
    unfold sealT
    rw [decide_eq_false (by omega)]
  refine ⟨decD m, fun hb => ?_, ?_, e⟩
  · have := decD_ne m _ hb
    have e : (58 : UInt8).toNat = 58 := rfl
    omega
  · rw [e, hm, dec_nn, ByteArray.data_append, ByteArray.data_append]
    simp
theorem opn_seal {t : ByteArray} (h : t.size ≤ 400) : opnK (sealT t) = true ∧ opnT (sealT t) = t := by
  obtain ⟨a, ha, hl, _⟩ := seal_list h
  have e1 : ixB (sealT t) 58 = a.length := ixB_first (c := 58) hl ha
  have e2 : cutZ (sealT t) 58 = t := by
    have := cutZ_first (c := 58) hl ha
    exact this
  have hk : opnK (sealT t) = true := by
    unfold opnK
    rw [e1, e2, strEq_self, decide_eq_true (by omega)]
    rfl
  refine ⟨hk, ?_⟩
  unfold opnT
  rw [hk]
  exact e2
theorem seal_opn {s : ByteArray} (h : opnK s = true) : sealT (opnT s) = s := by
  have e : opnT s = cutZ s 58 := by unfold opnT; rw [h]
  rw [e]
  unfold opnK at h
  rw [Bool.and_eq_true] at h
  exact strEq_eq h.2
end Go.Proofs.YtkjnijddbiconaaDoor.Ev
