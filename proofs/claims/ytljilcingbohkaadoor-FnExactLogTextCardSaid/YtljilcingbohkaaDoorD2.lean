/- The law of SumOpen. -/
import Derived.Test.YtljilcingbohkaaDoorD1
import Derived.Lib.Bytealg
import Derived.Lib.IndexBytes
namespace Go.Proofs.YtljilcingbohkaaDoor.Ev
open Go
set_option linter.unusedVariables false
set_option linter.unusedSimpArgs false
set_option maxRecDepth 100000
def ixB (t : ByteArray) (b : Int) : Int := fIx t.size fun i => byteAt t i == b
def g53 : G1
  | [.val (.string t), .val (.int .u8 b)], [], k => br (decide (t.size ≤ 1048576) && (decide (0 ≤ b) && decide (b ≤ 255))) (k ⟨.val (.int .i64 (ixB t b)), [], []⟩) False
  | _, _, _ => False
noncomputable def E53 : Env := E0.of Tryd.f53
noncomputable def G53 : Gk := gk []
noncomputable def lp53 (n : Nat) : Code := (loopOf n (codeOf Tryd.f53)).getD .skip
noncomputable def ct53 (L : Lp) (R : Option Res → Prop) (n : Nat) : Kt := contOf E53 G53 L n (codeOf Tryd.f53) (endK E53 Tryd.f53.results.toList R)
noncomputable def rk53 (L : Lp) (R : Option Res → Prop) (n : Nat) (N : St → Prop) : Kt := rk (jof E53 (lp53 n)) N (ct53 L R n)
noncomputable def LOOP53 (L : Lp) (R : Option Res → Prop) (n : Nat) (st : St) : Prop := L (lp53 n) st (ct53 L R n)
theorem hg53 : HG Tryd.prog G53 := hg_nil
theorem okf53 : Ok Tryd.prog E53 := ok0.of Tryd.f53
theorem e53 (L : Lp) (R : Option Res → Prop) (t : ByteArray) (b : Int) : (bodyP E0 G53 L Tryd.f53 [.val (.string t), .val (.int .u8 b)] [] R) = (
    LOOP53 L R 2 { tm := [vS t, AV.val (Value.int IntKind.u8 b), vU, vU, vI 0, vI 0, vJ, vJ, vJ, vJ, vJ, vJ, vJ, vJ, vJ, vJ, vJ, vJ], ob := [], nx := 1000000, ps := [] }) := by kernel_rfl
def st53 (t : ByteArray) (b i : Int) : St :=  ⟨[vS t, AV.val (Value.int IntKind.u8 b), vU, vU, vI 0, .val (.int .i64 i), vJ, vJ, vJ, vJ, vJ, vJ, vJ, vJ, vJ, vJ, vJ, vJ], [], 1000000, []⟩
theorem b53 (L : Lp) (R : Option Res → Prop) (N : St → Prop) (t : ByteArray) (b i : Int) : (evP E53 G53 L (lp53 2) (st53 t b i) (rk53 L R 2 N)) = (
    br (decide (i < (↑t.size : Int))) (br (decide (0 ≤ i ∧ i < (↑t.size : Int))) (br (byteAt t i == b) (R (some { av := vI i, obs := [], outs := [] })) (N { tm := [vS t, AV.val (Value.int IntKind.u8 b), vU, vU, vI 0, vI (IntKind.i64.wrap (i + 1)), vJ, vJ, vJ, vJ, vJ, vJ, vJ, vJ, vJ, vJ, vJ, vJ], ob := [], nx := 1000000, ps := [] })) False) (R (some { av := vI (-1), obs := [], outs := [] }))) := by kernel_rfl
theorem h53 : G1Ok Tryd.prog 53 g53 := by
  intro args obs k h
  unfold g53 at h
  split at h
  · rename_i k t b
    obtain ⟨hp, h⟩ := br_and h
    simp only [Bool.and_eq_true, decide_eq_true_eq] at hp
    refine ⟨_, ctr_fn ok0 hg53 Tryd.func53 (by kernel_rfl) (by kernel_rfl) (by kernel_rfl) fun C => ?_, h⟩
    rw [e53]
    exact loopFind okf53 hg53 (fun i => st53 t b i) t.size (fun i => byteAt t i == b) (by omega) (fun N i hi hw next found none => by
      show evP E53 G53 _ (lp53 2) (st53 t b i) (rk53 _ _ 2 _)
      rw [b53, hw]
      refine br_dec (fun h2 => br_yes ⟨by omega, h2⟩ (br_intro (fun h3 => ?_) (fun h3 => ?_))) (fun h2 => ?_)
      · show _ = _
        rw [show ixB t b = i from found (by omega) h3]
      · exact next (by omega) h3
      · show _ = _
        rw [show ixB t b = -1 from none (by omega)])
  · exact h.elim
theorem firstIdx_ix (t : ByteArray) {b : Int} (h0 : 0 ≤ b) (h1 : b ≤ 255) : firstIdx t b.toNat.toUInt8 = ixB t b := by
  unfold firstIdx ixB fIx
  have e : ((List.range t.size).find? fun i => t[i]! == b.toNat.toUInt8) = (List.range t.size).find? fun (i : Nat) => byteAt t i == b := by
    refine Lib.find_congr fun i hi => ?_
    have hi : i < t.size := by simpa using hi
    have e1 : t[i]! = t[i] := getElem!_pos t i hi
    have e2 : byteAt t i = ((t[i]'hi).toNat : Int) := by
      unfold byteAt
      rw [dif_pos (show ((i : Int)).toNat < t.size from hi)]
      rfl
    rw [e1, e2, Bool.eq_iff_iff, beq_iff_eq, beq_iff_eq, ← UInt8.toNat_inj]
    have : (b.toNat.toUInt8).toNat = b.toNat := by
      show b.toNat % 256 = b.toNat
      omega
    rw [this]
    omega
  rw [e]
  cases List.find? (fun (i : Nat) => byteAt t i == b) (List.range t.size) <;> rfl
def cutH (s : ByteArray) (b : Int) : ByteArray := match decide (0 ≤ ixB s b) with
  | true => s.extract 0 (ixB s b).toNat
  | false => s
def cutZ (s : ByteArray) (b : Int) : ByteArray := match decide (0 ≤ ixB s b) with
  | true => s.extract ((ixB s b).toNat + 1) s.size
  | false => ByteArray.empty
def g54 : G1
  | [.val (.string s), .val (.string p)], [], k => br (decide (s.size ≤ 2097152) && decide (p.size = 1)) (k ⟨.tup [.val (.string (cutH s (byteAt p 0))), .val (.string (cutZ s (byteAt p 0))), .val (.bool (decide (0 ≤ ixB s (byteAt p 0))))], [], []⟩) False
  | _, _, _ => False
theorem bytes_one {p : ByteArray} (h : p.size = 1) : p = ⟨#[p.data[0]!]⟩ ∧ byteAt p 0 = ((p.data[0]!).toNat : Int) := by
  obtain ⟨⟨l⟩⟩ := p
  have h : l.length = 1 := h
  match l, h with
  | [c], _ => exact ⟨rfl, rfl⟩
theorem R_tup3 {S : Sb} {σ : Sg} (a b c : Value) : R S σ (.tup [.val a, .val b, .val c]) (.tuple #[a, b, c]) := by
  refine R.tup _ [a, b, c] rfl fun j u v hu hv => ?_
  match j with
  | 0 => simp at hu hv; subst hu; subst hv; exact .val _
  | 1 => simp at hu hv; subst hu; subst hv; exact .val _
  | 2 => simp at hu hv; subst hu; subst hv; exact .val _
  | j + 3 => simp at hu
theorem extract_take (s : ByteArray) (i : Nat) : (⟨(s.data.toList.take i).toArray⟩ : ByteArray) = s.extract 0 i := by
  apply ByteArray.ext
  rw [ByteArray.data_extract]
  apply Array.ext'
  rw [Array.toList_extract]
  show s.data.toList.take i = (s.data.toList.drop 0).take (i - 0)
  rw [List.drop_zero, Nat.sub_zero]
theorem extract_drop (s : ByteArray) (i : Nat) : (⟨(s.data.toList.drop i).toArray⟩ : ByteArray) = s.extract i s.size := by
  apply ByteArray.ext
  rw [ByteArray.data_extract]
  apply Array.ext'
  rw [Array.toList_extract]
  show s.data.toList.drop i = (s.data.toList.drop i).take (s.size - i)
  rw [List.take_of_length_le]
  rw [List.length_drop]
  exact Nat.le_refl _
theorem h54 : G1Ok Tryd.prog 54 g54 := by
  intro args obs k h
  unfold g54 at h
  split at h
  · rename_i k s p
    obtain ⟨hp, h⟩ := br_and h
    simp only [Bool.and_eq_true, decide_eq_true_eq] at hp
    obtain ⟨hp1, hp2⟩ := bytes_one hp.2
    generalize hc : p.data[0]! = c at hp1 hp2
    subst hp1
    have hb := c.toNat_lt
    have ei : Lib.index s.data.toList [c] = ixB s (byteAt ⟨#[c]⟩ 0) := by
      rw [Lib.index_one, ← Lib.firstIdx_eq, hp2, ← firstIdx_ix s (b := (c.toNat : Int)) (by omega) (by omega)]
      congr 1
      apply UInt8.toNat_inj.1
      show c.toNat = c.toNat % 256
      omega
    refine ⟨_, ctr_lib (args := [.val (.string s), .val (.string ⟨#[c]⟩)]) Tryd.func54 (by kernel_rfl) (by kernel_rfl) (fun S π w vs hR hS ht => ?_), h⟩
    obtain rfl : vs = [.string s, .string ⟨#[c]⟩] := RL_vals_eq (vs := [.string s, .string ⟨#[c]⟩]) hR
    obtain ⟨m, hm⟩ := ht.2
    refine (Tryd.strings_Cut s ⟨#[c]⟩ m w (by omega) hm).mono fun e w' he => ?_
    obtain ⟨rfl, n, rfl⟩ := he
    refine ⟨_, rfl, ?_, quiet_drew w n⟩
    have ec : Lib.cut s.data.toList [c] = if 0 ≤ ixB s (byteAt ⟨#[c]⟩ 0) then (s.data.toList.take (ixB s (byteAt ⟨#[c]⟩ 0)).toNat, s.data.toList.drop ((ixB s (byteAt ⟨#[c]⟩ 0)).toNat + 1), true) else (s.data.toList, [], false) := by
      unfold Lib.cut
      rw [ei]
      rfl
    have e3 : (Lib.cut s.data.toList [c]).2.2 = decide (0 ≤ ixB s (byteAt ⟨#[c]⟩ 0)) := by
      rw [ec]
      by_cases h0 : 0 ≤ ixB s (byteAt ⟨#[c]⟩ 0)
      · rw [if_pos h0, decide_eq_true h0]
      · rw [if_neg h0, decide_eq_false h0]
    have e1 : (⟨(Lib.cut s.data.toList [c]).1.toArray⟩ : ByteArray) = cutH s (byteAt ⟨#[c]⟩ 0) := by
      unfold cutH
      rw [ec]
      by_cases h0 : 0 ≤ ixB s (byteAt ⟨#[c]⟩ 0)
      · rw [if_pos h0, decide_eq_true h0]
        exact extract_take s _
      · rw [if_neg h0, decide_eq_false h0]
    have e2 : (⟨(Lib.cut s.data.toList [c]).2.1.toArray⟩ : ByteArray) = cutZ s (byteAt ⟨#[c]⟩ 0) := by
      unfold cutZ
      rw [ec]
      by_cases h0 : 0 ≤ ixB s (byteAt ⟨#[c]⟩ 0)
      · rw [if_pos h0, decide_eq_true h0]
        exact extract_drop s _
      · rw [if_neg h0, decide_eq_false h0]
        rfl
    show R S π (.tup [.val _, .val _, .val _]) (.tuple #[.string ⟨(Lib.cut s.data.toList [c]).1.toArray⟩, .string ⟨(Lib.cut s.data.toList [c]).2.1.toArray⟩, .bool (Lib.cut s.data.toList [c]).2.2])
    rw [e1, e2, e3]
    exact R_tup3 _ _ _
  · exact h.elim
def opnK (s : ByteArray) : Bool := decide (0 ≤ ixB s 58) && strEq (sealT (cutZ s 58)) s
def opnT (s : ByteArray) : ByteArray := match opnK s with
  | true => cutZ s 58
  | false => ByteArray.empty
def g23 : G1
  | [.val (.string s)], [], k => br (decide (s.size ≤ 1048576)) (k ⟨.tup [.val (.string (opnT s)), .val (.bool (opnK s))], [], []⟩) False
  | _, _, _ => False
noncomputable def E23 : Env := E0.of Tryd.f23
noncomputable def G23 : Gk := gk [(53, g53), (13, g13)]
noncomputable def lp23 (n : Nat) : Code := (loopOf n (codeOf Tryd.f23)).getD .skip
noncomputable def ct23 (L : Lp) (R : Option Res → Prop) (n : Nat) : Kt := contOf E23 G23 L n (codeOf Tryd.f23) (endK E23 Tryd.f23.results.toList R)
noncomputable def rk23 (L : Lp) (R : Option Res → Prop) (n : Nat) (N : St → Prop) : Kt := rk (jof E23 (lp23 n)) N (ct23 L R n)
noncomputable def LOOP23 (L : Lp) (R : Option Res → Prop) (n : Nat) (st : St) : Prop := L (lp23 n) st (ct23 L R n)
theorem hg23 : HG Tryd.prog G23 := (hg_cons h53 (hg_cons h13 hg_nil))
theorem okf23 : Ok Tryd.prog E23 := ok0.of Tryd.f23
theorem e23 (L : Lp) (R : Option Res → Prop) (s : ByteArray) : (bodyP E0 G23 L Tryd.f23 [.val (.string s)] [] R) = (
    br (decide (s.size ≤ 1048576) && true) (br (decide (ixB s 58 < 0)) (R (some { av := AV.tup [vS { data := #[] }, vB false], obs := [], outs := [] })) (br (decide (0 ≤ IntKind.i64.wrap (ixB s 58 + 1) ∧ IntKind.i64.wrap (ixB s 58 + 1) ≤ (↑s.size : Int) ∧ (↑s.size : Int) ≤ (↑s.size : Int))) (br (decide ((s.extract (IntKind.i64.wrap (ixB s 58 + 1)).toNat (↑s.size : Int).toNat).size ≤ 4611686018427387904)) (br (!strEq (sealT (s.extract (IntKind.i64.wrap (ixB s 58 + 1)).toNat (↑s.size : Int).toNat)) s) (R (some { av := AV.tup [vS { data := #[] }, vB false], obs := [], outs := [] })) (br (decide (0 ≤ IntKind.i64.wrap (ixB s 58 + 1) ∧ IntKind.i64.wrap (ixB s 58 + 1) ≤ (↑s.size : Int) ∧ (↑s.size : Int) ≤ (↑s.size : Int))) (R (some { av := AV.tup [vS (s.extract (IntKind.i64.wrap (ixB s 58 + 1)).toNat (↑s.size : Int).toNat), vB true], obs := [], outs := [] })) False)) False) False)) False) := by kernel_rfl
noncomputable def E24 : Env := E0.of Tryd.f24
noncomputable def G24 : Gk := gk [(54, g54), (14, g13)]
noncomputable def lp24 (n : Nat) : Code := (loopOf n (codeOf Tryd.f24)).getD .skip
noncomputable def ct24 (L : Lp) (R : Option Res → Prop) (n : Nat) : Kt := contOf E24 G24 L n (codeOf Tryd.f24) (endK E24 Tryd.f24.results.toList R)
noncomputable def rk24 (L : Lp) (R : Option Res → Prop) (n : Nat) (N : St → Prop) : Kt := rk (jof E24 (lp24 n)) N (ct24 L R n)
noncomputable def LOOP24 (L : Lp) (R : Option Res → Prop) (n : Nat) (st : St) : Prop := L (lp24 n) st (ct24 L R n)
theorem hg24 : HG Tryd.prog G24 := (hg_cons h54 (hg_cons h14 hg_nil))
theorem okf24 : Ok Tryd.prog E24 := ok0.of Tryd.f24
theorem e24 (L : Lp) (R : Option Res → Prop) (s : ByteArray) : (bodyP E0 G24 L Tryd.f24 [.val (.string s)] [] R) = (
    br (decide (s.size ≤ 2097152) && true) (br (!decide (0 ≤ ixB s 58)) (R (some { av := AV.tup [vS { data := #[] }, vB false], obs := [], outs := [] })) (br (decide ((cutZ s 58).size ≤ 4611686018427387904)) (br (!strEq (sealT (cutZ s 58)) s) (R (some { av := AV.tup [vS { data := #[] }, vB false], obs := [], outs := [] })) (R (some { av := AV.tup [vS (cutZ s 58), vB true], obs := [], outs := [] }))) False)) False) := by kernel_rfl
theorem cutZ_size (s : ByteArray) (b : Int) : (cutZ s b).size ≤ s.size := by
  unfold cutZ
  split
  · rw [ByteArray.size_extract]
    omega
  · exact Nat.zero_le _
theorem ixB_lt (s : ByteArray) (b : Int) : -1 ≤ ixB s b ∧ ixB s b < s.size ∨ ixB s b = -1 := by
  unfold ixB fIx
  cases h : List.find? (fun (i : Nat) => byteAt s i == b) (List.range s.size) with
  | none => right; rfl
  | some i =>
    left
    have := List.mem_range.1 (List.mem_of_find?_eq_some h)
    show -1 ≤ (i : Int) ∧ (i : Int) < s.size
    omega
theorem h24 : G1Ok Tryd.prog 24 g23 := by
  intro args obs k h
  unfold g23 at h
  split at h
  · rename_i k s
    obtain ⟨hs, h⟩ := br_and h
    have hs' := of_decide_eq_true hs
    have hz := cutZ_size s 58
    refine ⟨_, ctr_fn ok0 hg24 Tryd.func24 (by kernel_rfl) (by kernel_rfl) (by kernel_rfl) fun C => ?_, h⟩
    rw [e24]
    refine br_t (by rw [decide_eq_true (show s.size ≤ 2097152 by omega)]; rfl) (br_not (fun h1 => ?_) (fun h1 => br_yes (by omega) (br_not (fun h2 => ?_) (fun h2 => ?_))))
    · have e : opnK s = false := by
        unfold opnK
        rw [h1]
        rfl
      show _ = _
      unfold opnT
      rw [e]
      rfl
    · have e : opnK s = false := by
        unfold opnK
        rw [h2, Bool.and_false]
      show _ = _
      unfold opnT
      rw [e]
      rfl
    · have e : opnK s = true := by
        unfold opnK
        rw [h1, h2]
        rfl
      show _ = _
      unfold opnT
      rw [e]
  · exact h.elim
theorem h23 : G1Ok Tryd.prog 23 g23 := by
  intro args obs k h
  unfold g23 at h
  split at h
  · rename_i k s
    obtain ⟨hs, h⟩ := br_and h
    have hs' := of_decide_eq_true hs
    have hz := cutZ_size s 58
    have hx := ixB_lt s 58
    refine ⟨_, ctr_fn ok0 hg23 Tryd.func23 (by kernel_rfl) (by kernel_rfl) (by kernel_rfl) fun C => ?_, h⟩
    rw [e23]
    rw [wrap_id (n := ixB s 58 + 1) (by omega) (by omega), Int.toNat_natCast]
    refine br_t (by rw [hs]; rfl) (br_dec (fun h1 => ?_) (fun h1 => br_yes ⟨by omega, by omega, by omega⟩ ?_))
    · have e : opnK s = false := by
        unfold opnK
        rw [decide_eq_false (show ¬ 0 ≤ ixB s 58 by omega)]
        rfl
      show _ = _
      unfold opnT
      rw [e]
      rfl
    have e1 : s.extract (ixB s 58 + 1).toNat s.size = cutZ s 58 := by
      unfold cutZ
      rw [decide_eq_true (show 0 ≤ ixB s 58 by omega), show (ixB s 58 + 1).toNat = (ixB s 58).toNat + 1 from by omega]
    rw [e1]
    refine br_yes (by omega) (br_not (fun h2 => ?_) (fun h2 => br_yes ⟨by omega, by omega, by omega⟩ ?_))
    · have e : opnK s = false := by
        unfold opnK
        rw [h2, Bool.and_false]
      show _ = _
      unfold opnT
      rw [e]
      rfl
    · have e : opnK s = true := by
        unfold opnK
        rw [decide_eq_true (show 0 ≤ ixB s 58 by omega), h2]
        rfl
      show _ = _
      unfold opnT
      rw [e]
  · exact h.elim
noncomputable def E7 : Env := E0.of Tryd.f7
noncomputable def G7 : Gk := gk [(23, g23), (24, g23)]
noncomputable def lp7 (n : Nat) : Code := (loopOf n (codeOf Tryd.f7)).getD .skip
noncomputable def ct7 (L : Lp) (R : Option Res → Prop) (n : Nat) : Kt := contOf E7 G7 L n (codeOf Tryd.f7) (endK E7 Tryd.f7.results.toList R)
noncomputable def rk7 (L : Lp) (R : Option Res → Prop) (n : Nat) (N : St → Prop) : Kt := rk (jof E7 (lp7 n)) N (ct7 L R n)
noncomputable def LOOP7 (L : Lp) (R : Option Res → Prop) (n : Nat) (st : St) : Prop := L (lp7 n) st (ct7 L R n)
theorem hg7 : HG Tryd.prog G7 := (hg_cons h23 (hg_cons h24 hg_nil))
theorem okf7 : Ok Tryd.prog E7 := ok0.of Tryd.f7
theorem e7 (L : Lp) (R : Option Res → Prop) (s : ByteArray) : (bodyP E0 G7 L Tryd.f7 [.val (.string s)] [] R) = (
    br (decide ((↑s.size : Int) > 1048576)) (R (some { av := vB true, obs := [], outs := [] })) (br (decide (s.size ≤ 1048576)) (br (decide (s.size ≤ 1048576)) (br (!strEq (opnT s) (opnT s)) (R (some { av := vB false, obs := [], outs := [] })) (br (!opnK s == opnK s) (R (some { av := vB false, obs := [], outs := [] })) (R (some { av := vB true, obs := [], outs := [] })))) False) False)) := by kernel_rfl
theorem c7 (t : ByteArray) : Ctr Tryd.prog 7 [.val (.string t)] [] ⟨.val (.bool true), [], []⟩ := by
  refine ctr_fn ok0 hg7 Tryd.func7 (by kernel_rfl) (by kernel_rfl) (by kernel_rfl) fun C => ?_
  rw [e7]
  refine br_dec (fun _ => rfl) (fun h1 => ?_)
  have hd : decide (t.size ≤ 1048576) = true := decide_eq_true (by omega)
  refine br_t hd (br_t hd (br_not (fun h => ?_) (fun _ => br_intro (fun h => ?_) (fun _ => rfl))))
  · rw [strEq_self] at h
    cases h
  · simp at h
end Go.Proofs.YtljilcingbohkaaDoor.Ev
