/- The law of SumOpen. -/
import Derived.Test.YtljilcingbohkabDoorDT
import Derived.Lib.Bytealg
import Derived.Lib.IndexBytes
namespace Go.Proofs.YtljilcingbohkabDoor.Ev
open Go
set_option linter.unusedVariables false
set_option linter.unusedSimpArgs false
set_option maxRecDepth 100000
def ixB (t : ByteArray) (b : Int) : Int := fIx t.size fun i => byteAt t i == b
def g140 : G1
  | [.val (.string t), .val (.int .u8 b)], [], k => br (decide (t.size ≤ 1048576) && (decide (0 ≤ b) && decide (b ≤ 255))) (k ⟨.val (.int .i64 (ixB t b)), [], []⟩) False
  | _, _, _ => False
noncomputable def E140 : Env := E0.of Tryd.f140
noncomputable def G140 : Gk := gk []
noncomputable def lp140 (n : Nat) : Code := (loopOf n (codeOf Tryd.f140)).getD .skip
noncomputable def ct140 (L : Lp) (R : Option Res → Prop) (n : Nat) : Kt := contOf E140 G140 L n (codeOf Tryd.f140) (endK E140 Tryd.f140.results.toList R)
noncomputable def rk140 (L : Lp) (R : Option Res → Prop) (n : Nat) (N : St → Prop) : Kt := rk (jof E140 (lp140 n)) N (ct140 L R n)
noncomputable def rkn140 (L : Lp) (R : Option Res → Prop) (n : Nat) (N : St → Prop) (m : Nat) (N2 : St → Prop) : Kt := rk (jof E140 (lp140 m)) N2 (contOf E140 G140 L m (lp140 n) (rk140 L R n N))
noncomputable def LOOPN140 (L : Lp) (R : Option Res → Prop) (n : Nat) (N : St → Prop) (m : Nat) (st : St) : Prop := L (lp140 m) st (contOf E140 G140 L m (lp140 n) (rk140 L R n N))
noncomputable def LOOP140 (L : Lp) (R : Option Res → Prop) (n : Nat) (st : St) : Prop := L (lp140 n) st (ct140 L R n)
theorem hg140 : HG Tryd.prog G140 := hg_nil
theorem okf140 : Ok Tryd.prog E140 := ok0.of Tryd.f140
theorem e140 (L : Lp) (R : Option Res → Prop) (t : ByteArray) (b : Int) : (bodyP E0 G140 L Tryd.f140 [.val (.string t), .val (.int .u8 b)] [] R) = (
    LOOP140 L R 2 { tm := [vS t, AV.val (Value.int IntKind.u8 b), vU, vU, vI 0, vI 0, vJ, vJ, vJ, vJ, vJ, vJ, vJ, vJ, vJ, vJ, vJ, vJ], ob := [], nx := 1000000, ps := [] }) := by kernel_rfl
def st140 (t : ByteArray) (b i : Int) : St :=  ⟨[vS t, AV.val (Value.int IntKind.u8 b), vU, vU, vI 0, .val (.int .i64 i), vJ, vJ, vJ, vJ, vJ, vJ, vJ, vJ, vJ, vJ, vJ, vJ], [], 1000000, []⟩
theorem b140 (L : Lp) (R : Option Res → Prop) (N : St → Prop) (t : ByteArray) (b i : Int) : (evP E140 G140 L (lp140 2) (st140 t b i) (rk140 L R 2 N)) = (
    br (decide (i < (↑t.size : Int))) (br (decide (0 ≤ i ∧ i < (↑t.size : Int))) (br (byteAt t i == b) (R (some { av := vI i, obs := [], outs := [] })) (N { tm := [vS t, AV.val (Value.int IntKind.u8 b), vU, vU, vI 0, vI (IntKind.i64.wrap (i + 1)), vJ, vJ, vJ, vJ, vJ, vJ, vJ, vJ, vJ, vJ, vJ, vJ], ob := [], nx := 1000000, ps := [] })) False) (R (some { av := vI (-1), obs := [], outs := [] }))) := by kernel_rfl
theorem h140 : G1Ok Tryd.prog 140 g140 := by
  intro args obs k h
  unfold g140 at h
  split at h
  · rename_i k t b
    obtain ⟨hp, h⟩ := br_and h
    simp only [Bool.and_eq_true, decide_eq_true_eq] at hp
    refine ⟨_, ctr_fn ok0 hg140 Tryd.func140 (by kernel_rfl) (by kernel_rfl) (by kernel_rfl) fun C => ?_, h⟩
    rw [e140]
    exact loopFind okf140 hg140 (fun i => st140 t b i) t.size (fun i => byteAt t i == b) (by omega) (fun N i hi hw next found none => by
      show evP E140 G140 _ (lp140 2) (st140 t b i) (rk140 _ _ 2 _)
      rw [b140, hw]
      refine br_dec (fun h2 => br_yes ⟨by omega, h2⟩ (br_intro (fun h3 => ?_) (fun h3 => ?_))) (fun h2 => ?_)
      · show _ = _
        rw [show ixB t b = i from found (by omega) h3]
      · exact next (by omega) h3
      · show _ = _
        rw [show ixB t b = -1 from none (by omega)])
  · exact h.elim
theorem firstIdx_ix (t : ByteArray) {b : Int} (h0 : 0 ≤ b) (h1 : b ≤ 255) : firstIdx t b.toNat.toUInt8 = ixB t b := by
  unfold firstIdx ixB fIx
  have e : ((List.range t.size).find? fun i => t[i]! == b.toNat.toUInt8) = (List.range t.size).find? fun (i : Nat) => byteAt t i == b := by
    refine Lib.find_congr fun i hi => ?_
    have hi : i < t.size := by simpa using hi
    have e1 : t[i]! = t[i] := getElem!_pos t i hi
    have e2 : byteAt t i = ((t[i]'hi).toNat : Int) := by
      unfold byteAt
      rw [dif_pos (show ((i : Int)).toNat < t.size from hi)]
      rfl
    rw [e1, e2, Bool.eq_iff_iff, beq_iff_eq, beq_iff_eq, ← UInt8.toNat_inj]
    have : (b.toNat.toUInt8).toNat = b.toNat := by
      show b.toNat % 256 = b.toNat
      omega
    rw [this]
    omega
  rw [e]
  cases List.find? (fun (i : Nat) => byteAt t i == b) (List.range t.size) <;> rfl
def cutH (s : ByteArray) (b : Int) : ByteArray := match decide (0 ≤ ixB s b) with
  | true => s.extract 0 (ixB s b).toNat
  | false => s
def cutZ (s : ByteArray) (b : Int) : ByteArray := match decide (0 ≤ ixB s b) with
  | true => s.extract ((ixB s b).toNat + 1) s.size
  | false => ByteArray.empty
def g105 : G1
  | [.val (.string s), .val (.string p)], [], k => br (decide (s.size ≤ 2097152) && decide (p.size = 1)) (k ⟨.tup [.val (.string (cutH s (byteAt p 0))), .val (.string (cutZ s (byteAt p 0))), .val (.bool (decide (0 ≤ ixB s (byteAt p 0))))], [], []⟩) False
  | _, _, _ => False
theorem bytes_one {p : ByteArray} (h : p.size = 1) : p = ⟨#[p.data[0]!]⟩ ∧ byteAt p 0 = ((p.data[0]!).toNat : Int) := by
  obtain ⟨⟨l⟩⟩ := p
  have h : l.length = 1 := h
  match l, h with
  | [c], _ => exact ⟨rfl, rfl⟩
theorem R_tup3 {S : Sb} {σ : Sg} (a b c : Value) : R S σ (.tup [.val a, .val b, .val c]) (.tuple #[a, b, c]) := by
  refine R.tup _ [a, b, c] rfl fun j u v hu hv => ?_
  match j with
  | 0 => simp at hu hv; subst hu; subst hv; exact .val _
  | 1 => simp at hu hv; subst hu; subst hv; exact .val _
  | 2 => simp at hu hv; subst hu; subst hv; exact .val _
  | j + 3 => simp at hu
theorem extract_take (s : ByteArray) (i : Nat) : (⟨(s.data.toList.take i).toArray⟩ : ByteArray) = s.extract 0 i := by
  apply ByteArray.ext
  rw [ByteArray.data_extract]
  apply Array.ext'
  rw [Array.toList_extract]
  show s.data.toList.take i = (s.data.toList.drop 0).take (i - 0)
  rw [List.drop_zero, Nat.sub_zero]
theorem extract_drop (s : ByteArray) (i : Nat) : (⟨(s.data.toList.drop i).toArray⟩ : ByteArray) = s.extract i s.size := by
  apply ByteArray.ext
  rw [ByteArray.data_extract]
  apply Array.ext'
  rw [Array.toList_extract]
  show s.data.toList.drop i = (s.data.toList.drop i).take (s.size - i)
  rw [List.take_of_length_le]
  rw [List.length_drop]
  exact Nat.le_refl _
theorem h105 : G1Ok Tryd.prog 105 g105 := by
  intro args obs k h
  unfold g105 at h
  split at h
  · rename_i k s p
    obtain ⟨hp, h⟩ := br_and h
    simp only [Bool.and_eq_true, decide_eq_true_eq] at hp
    obtain ⟨hp1, hp2⟩ := bytes_one hp.2
    generalize hc : p.data[0]! = c at hp1 hp2
    subst hp1
    have hb := c.toNat_lt
    have ei : Lib.index s.data.toList [c] = ixB s (byteAt ⟨#[c]⟩ 0) := by
      rw [Lib.index_one, ← Lib.firstIdx_eq, hp2, ← firstIdx_ix s (b := (c.toNat : Int)) (by omega) (by omega)]
      congr 1
      apply UInt8.toNat_inj.1
      show c.toNat = c.toNat % 256
      omega
    refine ⟨_, ctr_lib (args := [.val (.string s), .val (.string ⟨#[c]⟩)]) Tryd.func105 (by kernel_rfl) (by kernel_rfl) (fun S π w vs hR hS ht => ?_), h⟩
    obtain rfl : vs = [.string s, .string ⟨#[c]⟩] := RL_vals_eq (vs := [.string s, .string ⟨#[c]⟩]) hR
    obtain ⟨m, hm⟩ := ht.2.1
    refine (Tryd.strings_Cut s ⟨#[c]⟩ m w (by omega) hm).mono fun e w' he => ?_
    obtain ⟨rfl, n, rfl⟩ := he
    refine ⟨_, rfl, ?_, quiet_drew w n⟩
    have ec : Lib.cut s.data.toList [c] = if 0 ≤ ixB s (byteAt ⟨#[c]⟩ 0) then (s.data.toList.take (ixB s (byteAt ⟨#[c]⟩ 0)).toNat, s.data.toList.drop ((ixB s (byteAt ⟨#[c]⟩ 0)).toNat + 1), true) else (s.data.toList, [], false) := by
      unfold Lib.cut
      rw [ei]
      rfl
    have e3 : (Lib.cut s.data.toList [c]).2.2 = decide (0 ≤ ixB s (byteAt ⟨#[c]⟩ 0)) := by
      rw [ec]
      by_cases h0 : 0 ≤ ixB s (byteAt ⟨#[c]⟩ 0)
      · rw [if_pos h0, decide_eq_true h0]
      · rw [if_neg h0, decide_eq_false h0]
    have e1 : (⟨(Lib.cut s.data.toList [c]).1.toArray⟩ : ByteArray) = cutH s (byteAt ⟨#[c]⟩ 0) := by
      unfold cutH
      rw [ec]
      by_cases h0 : 0 ≤ ixB s (byteAt ⟨#[c]⟩ 0)
      · rw [if_pos h0, decide_eq_true h0]
        exact extract_take s _
      · rw [if_neg h0, decide_eq_false h0]
    have e2 : (⟨(Lib.cut s.data.toList [c]).2.1.toArray⟩ : ByteArray) = cutZ s (byteAt ⟨#[c]⟩ 0) := by
      unfold cutZ
      rw [ec]
      by_cases h0 : 0 ≤ ixB s (byteAt ⟨#[c]⟩ 0)
      · rw [if_pos h0, decide_eq_true h0]
        exact extract_drop s _
      · rw [if_neg h0, decide_eq_false h0]
        rfl
    show R S π (.tup [.val _, .val _, .val _]) (.tuple #[.string ⟨(Lib.cut s.data.toList [c]).1.toArray⟩, .string ⟨(Lib.cut s.data.toList [c]).2.1.toArray⟩, .bool (Lib.cut s.data.toList [c]).2.2])
    rw [e1, e2, e3]
    exact R_tup3 _ _ _
  · exact h.elim
def opnK (s : ByteArray) : Bool := decide (0 ≤ ixB s 58) && strEq (sealT (cutZ s 58)) s
def opnT (s : ByteArray) : ByteArray := match opnK s with
  | true => cutZ s 58
  | false => ByteArray.empty
def g98 : G1
  | [.val (.string s)], [], k => br (decide (s.size ≤ 1048576)) (k ⟨.tup [.val (.string (opnT s)), .val (.bool (opnK s))], [], []⟩) False
  | _, _, _ => False
noncomputable def E98 : Env := E0.of Tryd.f98
noncomputable def G98 : Gk := gk [(140, g140), (141, g141)]
noncomputable def lp98 (n : Nat) : Code := (loopOf n (codeOf Tryd.f98)).getD .skip
noncomputable def ct98 (L : Lp) (R : Option Res → Prop) (n : Nat) : Kt := contOf E98 G98 L n (codeOf Tryd.f98) (endK E98 Tryd.f98.results.toList R)
noncomputable def rk98 (L : Lp) (R : Option Res → Prop) (n : Nat) (N : St → Prop) : Kt := rk (jof E98 (lp98 n)) N (ct98 L R n)
noncomputable def rkn98 (L : Lp) (R : Option Res → Prop) (n : Nat) (N : St → Prop) (m : Nat) (N2 : St → Prop) : Kt := rk (jof E98 (lp98 m)) N2 (contOf E98 G98 L m (lp98 n) (rk98 L R n N))
noncomputable def LOOPN98 (L : Lp) (R : Option Res → Prop) (n : Nat) (N : St → Prop) (m : Nat) (st : St) : Prop := L (lp98 m) st (contOf E98 G98 L m (lp98 n) (rk98 L R n N))
noncomputable def LOOP98 (L : Lp) (R : Option Res → Prop) (n : Nat) (st : St) : Prop := L (lp98 n) st (ct98 L R n)
theorem hg98 : HG Tryd.prog G98 := (hg_cons h140 (hg_cons h141 hg_nil))
theorem okf98 : Ok Tryd.prog E98 := ok0.of Tryd.f98
theorem e98 (L : Lp) (R : Option Res → Prop) (s : ByteArray) : (bodyP E0 G98 L Tryd.f98 [.val (.string s)] [] R) = (
    br (decide (s.size ≤ 1048576) && true) (br (decide (ixB s 58 < 0)) (R (some { av := AV.tup [vS { data := #[] }, vB false], obs := [], outs := [] })) (br (decide (0 ≤ IntKind.i64.wrap (ixB s 58 + 1) ∧ IntKind.i64.wrap (ixB s 58 + 1) ≤ (↑s.size : Int) ∧ (↑s.size : Int) ≤ (↑s.size : Int))) (br (decide ((s.extract (IntKind.i64.wrap (ixB s 58 + 1)).toNat (↑s.size : Int).toNat).size ≤ 4611686018427387904)) (br (!strEq (sealT (s.extract (IntKind.i64.wrap (ixB s 58 + 1)).toNat (↑s.size : Int).toNat)) s) (R (some { av := AV.tup [vS { data := #[] }, vB false], obs := [], outs := [] })) (br (decide (0 ≤ IntKind.i64.wrap (ixB s 58 + 1) ∧ IntKind.i64.wrap (ixB s 58 + 1) ≤ (↑s.size : Int) ∧ (↑s.size : Int) ≤ (↑s.size : Int))) (R (some { av := AV.tup [vS (s.extract (IntKind.i64.wrap (ixB s 58 + 1)).toNat (↑s.size : Int).toNat), vB true], obs := [], outs := [] })) False)) False) False)) False) := by kernel_rfl
noncomputable def E100 : Env := E0.of Tryd.f100
noncomputable def G100 : Gk := gk [(105, g105), (142, g141)]
noncomputable def lp100 (n : Nat) : Code := (loopOf n (codeOf Tryd.f100)).getD .skip
noncomputable def ct100 (L : Lp) (R : Option Res → Prop) (n : Nat) : Kt := contOf E100 G100 L n (codeOf Tryd.f100) (endK E100 Tryd.f100.results.toList R)
noncomputable def rk100 (L : Lp) (R : Option Res → Prop) (n : Nat) (N : St → Prop) : Kt := rk (jof E100 (lp100 n)) N (ct100 L R n)
noncomputable def rkn100 (L : Lp) (R : Option Res → Prop) (n : Nat) (N : St → Prop) (m : Nat) (N2 : St → Prop) : Kt := rk (jof E100 (lp100 m)) N2 (contOf E100 G100 L m (lp100 n) (rk100 L R n N))
noncomputable def LOOPN100 (L : Lp) (R : Option Res → Prop) (n : Nat) (N : St → Prop) (m : Nat) (st : St) : Prop := L (lp100 m) st (contOf E100 G100 L m (lp100 n) (rk100 L R n N))
noncomputable def LOOP100 (L : Lp) (R : Option Res → Prop) (n : Nat) (st : St) : Prop := L (lp100 n) st (ct100 L R n)
theorem hg100 : HG Tryd.prog G100 := (hg_cons h105 (hg_cons h142 hg_nil))
theorem okf100 : Ok Tryd.prog E100 := ok0.of Tryd.f100
theorem e100 (L : Lp) (R : Option Res → Prop) (s : ByteArray) : (bodyP E0 G100 L Tryd.f100 [.val (.string s)] [] R) = (
    br (decide (s.size ≤ 2097152) && true) (br (!decide (0 ≤ ixB s 58)) (R (some { av := AV.tup [vS { data := #[] }, vB false], obs := [], outs := [] })) (br (decide ((cutZ s 58).size ≤ 4611686018427387904)) (br (!strEq (sealT (cutZ s 58)) s) (R (some { av := AV.tup [vS { data := #[] }, vB false], obs := [], outs := [] })) (R (some { av := AV.tup [vS (cutZ s 58), vB true], obs := [], outs := [] }))) False)) False) := by kernel_rfl
theorem cutZ_size (s : ByteArray) (b : Int) : (cutZ s b).size ≤ s.size := by
  unfold cutZ
  split
  · rw [ByteArray.size_extract]
    omega
  · exact Nat.zero_le _
theorem ixB_lt (s : ByteArray) (b : Int) : -1 ≤ ixB s b ∧ ixB s b < s.size ∨ ixB s b = -1 := by
  unfold ixB fIx
  cases h : List.find? (fun (i : Nat) => byteAt s i == b) (List.range s.size) with
  | none => right; rfl
  | some i =>
    left
    have := List.mem_range.1 (List.mem_of_find?_eq_some h)
    show -1 ≤ (i : Int) ∧ (i : Int) < s.size
    omega
theorem h100 : G1Ok Tryd.prog 100 g98 := by
  intro args obs k h
  unfold g98 at h
  split at h
  · rename_i k s
    obtain ⟨hs, h⟩ := br_and h
    have hs' := of_decide_eq_true hs
    have hz := cutZ_size s 58
    refine ⟨_, ctr_fn ok0 hg100 Tryd.func100 (by kernel_rfl) (by kernel_rfl) (by kernel_rfl) fun C => ?_, h⟩
    rw [e100]
    refine br_t (by rw [decide_eq_true (show s.size ≤ 2097152 by omega)]; rfl) (br_not (fun h1 => ?_) (fun h1 => br_yes (by omega) (br_not (fun h2 => ?_) (fun h2 => ?_))))
    · have e : opnK s = false := by
        unfold opnK
        rw [h1]
        rfl
      show _ = _
      unfold opnT
      rw [e]
      rfl
    · have e : opnK s = false := by
        unfold opnK
        rw [h2, Bool.and_false]
      show _ = _
      unfold opnT
      rw [e]
      rfl
    · have e : opnK s = true := by
        unfold opnK
        rw [h1, h2]
        rfl
      show _ = _
      unfold opnT
      rw [e]
  · exact h.elim
theorem h98 : G1Ok Tryd.prog 98 g98 := by
  intro args obs k h
  unfold g98 at h
  split at h
  · rename_i k s
    obtain ⟨hs, h⟩ := br_and h
    have hs' := of_decide_eq_true hs
    have hz := cutZ_size s 58
    have hx := ixB_lt s 58
    refine ⟨_, ctr_fn ok0 hg98 Tryd.func98 (by kernel_rfl) (by kernel_rfl) (by kernel_rfl) fun C => ?_, h⟩
    rw [e98]
    rw [wrap_id (n := ixB s 58 + 1) (by omega) (by omega), Int.toNat_natCast]
    refine br_t (by rw [hs]; rfl) (br_dec (fun h1 => ?_) (fun h1 => br_yes ⟨by omega, by omega, by omega⟩ ?_))
    · have e : opnK s = false := by
        unfold opnK
        rw [decide_eq_false (show ¬ 0 ≤ ixB s 58 by omega)]
        rfl
      show _ = _
      unfold opnT
      rw [e]
      rfl
    have e1 : s.extract (ixB s 58 + 1).toNat s.size = cutZ s 58 := by
      unfold cutZ
      rw [decide_eq_true (show 0 ≤ ixB s 58 by omega), show (ixB s 58 + 1).toNat = (ixB s 58).toNat + 1 from by omega]
    rw [e1]
    refine br_yes (by omega) (br_not (fun h2 => ?_) (fun h2 => br_yes ⟨by omega, by omega, by omega⟩ ?_))
    · have e : opnK s = false := by
        unfold opnK
        rw [h2, Bool.and_false]
      show _ = _
      unfold opnT
      rw [e]
      rfl
    · have e : opnK s = true := by
        unfold opnK
        rw [decide_eq_true (show 0 ≤ ixB s 58 by omega), h2]
        rfl
      show _ = _
      unfold opnT
      rw [e]
  · exact h.elim
end Go.Proofs.YtljilcingbohkabDoor.Ev
