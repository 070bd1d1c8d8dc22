/- The law of SumUnhex. -/
import Derived.Test.YtjhjhkphcemcmaaF1
import Derived.Test.YtjhjhkphcemcmaaEv26
import Derived.Lib.Bytealg
namespace Go.Proofs.Ytjhjhkphcemcmaa.Ev
open Go
set_option linter.unusedVariables false
set_option linter.unusedSimpArgs false
set_option maxRecDepth 100000
abbrev ku : List CK := [.int .u8]
def ixB (t : ByteArray) (b : Int) : Int := fIx t.size fun i => byteAt t i == b
def g66 : G1
  | [.val (.string t), .val (.int .u8 b)], [], k => br (decide (t.size ≤ 1048576) && (decide (0 ≤ b) && decide (b ≤ 255))) (k ⟨.val (.int .i64 (ixB t b)), [], []⟩) False
  | _, _, _ => False
noncomputable def E66 : Env := E0.of Try.f66
noncomputable def G66 : Gk := gk []
noncomputable def lp66 (n : Nat) : Code := (loopOf n (codeOf Try.f66)).getD .skip
noncomputable def ct66 (L : Lp) (R : Option Res → Prop) (n : Nat) : Kt := contOf E66 G66 L n (codeOf Try.f66) (endK E66 Try.f66.results.toList R)
noncomputable def rk66 (L : Lp) (R : Option Res → Prop) (n : Nat) (N : St → Prop) : Kt := rk (jof E66 (lp66 n)) N (ct66 L R n)
noncomputable def LOOP66 (L : Lp) (R : Option Res → Prop) (n : Nat) (st : St) : Prop := L (lp66 n) st (ct66 L R n)
theorem hg66 : HG Try.prog G66 := hg_nil
theorem okf66 : Ok Try.prog E66 := ok0.of Try.f66
theorem e66 (L : Lp) (R : Option Res → Prop) (t : ByteArray) (b : Int) : (bodyP E0 G66 L Try.f66 [.val (.string t), .val (.int .u8 b)] [] R) = (
    LOOP66 L R 2 { tm := [vS t, AV.val (Value.int IntKind.u8 b), vU, vU, vI 0, vI 0, vJ, vJ, vJ, vJ, vJ, vJ, vJ, vJ, vJ, vJ, vJ, vJ], ob := [], nx := 1000000, ps := [] }) := by kernel_rfl
def st66 (t : ByteArray) (b i : Int) : St :=  ⟨[vS t, AV.val (Value.int IntKind.u8 b), vU, vU, vI 0, .val (.int .i64 i), vJ, vJ, vJ, vJ, vJ, vJ, vJ, vJ, vJ, vJ, vJ, vJ], [], 1000000, []⟩
theorem b66 (L : Lp) (R : Option Res → Prop) (N : St → Prop) (t : ByteArray) (b i : Int) : (evP E66 G66 L (lp66 2) (st66 t b i) (rk66 L R 2 N)) = (
    br (decide (i < (↑t.size : Int))) (br (decide (0 ≤ i ∧ i < (↑t.size : Int))) (br (byteAt t i == b) (R (some { av := vI i, obs := [], outs := [] })) (N { tm := [vS t, AV.val (Value.int IntKind.u8 b), vU, vU, vI 0, vI (IntKind.i64.wrap (i + 1)), vJ, vJ, vJ, vJ, vJ, vJ, vJ, vJ, vJ, vJ, vJ, vJ], ob := [], nx := 1000000, ps := [] })) False) (R (some { av := vI (-1), obs := [], outs := [] }))) := by kernel_rfl
theorem h66 : G1Ok Try.prog 66 g66 := by
  intro args obs k h
  unfold g66 at h
  split at h
  · rename_i k t b
    obtain ⟨hp, h⟩ := br_and h
    simp only [Bool.and_eq_true, decide_eq_true_eq] at hp
    refine ⟨_, ctr_fn ok0 hg66 Try.func66 (by kernel_rfl) (by kernel_rfl) (by kernel_rfl) fun C => ?_, h⟩
    rw [e66]
    exact loopFind okf66 hg66 (fun i => st66 t b i) t.size (fun i => byteAt t i == b) (by omega) (fun N i hi hw next found none => by
      show evP E66 G66 _ (lp66 2) (st66 t b i) (rk66 _ _ 2 _)
      rw [b66, hw]
      refine br_dec (fun h2 => br_yes ⟨by omega, h2⟩ (br_intro (fun h3 => ?_) (fun h3 => ?_))) (fun h2 => ?_)
      · show _ = _
        rw [show ixB t b = i from found (by omega) h3]
      · exact next (by omega) h3
      · show _ = _
        rw [show ixB t b = -1 from none (by omega)])
  · exact h.elim
theorem firstIdx_ix (t : ByteArray) {b : Int} (h0 : 0 ≤ b) (h1 : b ≤ 255) : firstIdx t b.toNat.toUInt8 = ixB t b := by
  unfold firstIdx ixB fIx
  have e : ((List.range t.size).find? fun i => t[i]! == b.toNat.toUInt8) = (List.range t.size).find? fun (i : Nat) => byteAt t i == b := by
    refine Lib.find_congr fun i hi => ?_
    have hi : i < t.size := by simpa using hi
    have e1 : t[i]! = t[i] := getElem!_pos t i hi
    have e2 : byteAt t i = ((t[i]'hi).toNat : Int) := by
      unfold byteAt
      rw [dif_pos (show ((i : Int)).toNat < t.size from hi)]
      rfl
    rw [e1, e2, Bool.eq_iff_iff, beq_iff_eq, beq_iff_eq, ← UInt8.toNat_inj]
    have : (b.toNat.toUInt8).toNat = b.toNat := by
      show b.toNat % 256 = b.toNat
      omega
    rw [this]
    omega
  rw [e]
  cases List.find? (fun (i : Nat) => byteAt t i == b) (List.range t.size) <;> rfl
theorem h144 : G1Ok Try.prog 144 g66 := by
  intro args obs k h
  unfold g66 at h
  split at h
  · rename_i k t b
    obtain ⟨hp, h⟩ := br_and h
    simp only [Bool.and_eq_true, decide_eq_true_eq] at hp
    refine ⟨_, ctr_ext (e := Extern.BytealgIndexByte.indexByte) (us := [.string t, .int .u8 b]) Try.func144 (by kernel_rfl) (by kernel_rfl) (by kernel_rfl) (by kernel_rfl) fun w => run_indexByte_string t b w, ?_⟩
    rw [firstIdx_ix t hp.2.1 hp.2.2]
    exact h
  · exact h.elim
noncomputable def E120 : Env := E0.of Try.f120
noncomputable def G120 : Gk := gk [(144, g66)]
noncomputable def lp120 (n : Nat) : Code := (loopOf n (codeOf Try.f120)).getD .skip
noncomputable def ct120 (L : Lp) (R : Option Res → Prop) (n : Nat) : Kt := contOf E120 G120 L n (codeOf Try.f120) (endK E120 Try.f120.results.toList R)
noncomputable def rk120 (L : Lp) (R : Option Res → Prop) (n : Nat) (N : St → Prop) : Kt := rk (jof E120 (lp120 n)) N (ct120 L R n)
noncomputable def LOOP120 (L : Lp) (R : Option Res → Prop) (n : Nat) (st : St) : Prop := L (lp120 n) st (ct120 L R n)
theorem hg120 : HG Try.prog G120 := (hg_cons h144 hg_nil)
theorem okf120 : Ok Try.prog E120 := ok0.of Try.f120
theorem e120 (L : Lp) (R : Option Res → Prop) (t : ByteArray) (b : Int) : (bodyP E0 G120 L Try.f120 [.val (.string t), .val (.int .u8 b)] [] R) = (
    br (decide (t.size ≤ 1048576) && (decide (0 ≤ b) && decide (b ≤ 255))) (R (some { av := vI (ixB t b), obs := [], outs := [] })) False) := by kernel_rfl
theorem h120 : G1Ok Try.prog 120 g66 := by
  intro args obs k h
  unfold g66 at h
  split at h
  · rename_i k t b
    obtain ⟨hp, h⟩ := br_and h
    refine ⟨_, ctr_fn ok0 hg120 Try.func120 (by kernel_rfl) (by kernel_rfl) (by kernel_rfl) fun C => ?_, h⟩
    rw [e120]
    exact br_t hp rfl
  · exact h.elim
noncomputable def E67 : Env := E0.of Try.f67
noncomputable def G67 : Gk := gk [(120, g66)]
noncomputable def lp67 (n : Nat) : Code := (loopOf n (codeOf Try.f67)).getD .skip
noncomputable def ct67 (L : Lp) (R : Option Res → Prop) (n : Nat) : Kt := contOf E67 G67 L n (codeOf Try.f67) (endK E67 Try.f67.results.toList R)
noncomputable def rk67 (L : Lp) (R : Option Res → Prop) (n : Nat) (N : St → Prop) : Kt := rk (jof E67 (lp67 n)) N (ct67 L R n)
noncomputable def LOOP67 (L : Lp) (R : Option Res → Prop) (n : Nat) (st : St) : Prop := L (lp67 n) st (ct67 L R n)
theorem hg67 : HG Try.prog G67 := (hg_cons h120 hg_nil)
theorem okf67 : Ok Try.prog E67 := ok0.of Try.f67
theorem e67 (L : Lp) (R : Option Res → Prop) (t : ByteArray) (b : Int) : (bodyP E0 G67 L Try.f67 [.val (.string t), .val (.int .u8 b)] [] R) = (
    br (decide (t.size ≤ 1048576) && (decide (0 ≤ b) && decide (b ≤ 255))) (R (some { av := vI (ixB t b), obs := [], outs := [] })) False) := by kernel_rfl
theorem h67 : G1Ok Try.prog 67 g66 := by
  intro args obs k h
  unfold g66 at h
  split at h
  · rename_i k t b
    obtain ⟨hp, h⟩ := br_and h
    refine ⟨_, ctr_fn ok0 hg67 Try.func67 (by kernel_rfl) (by kernel_rfl) (by kernel_rfl) fun C => ?_, h⟩
    rw [e67]
    exact br_t hp rfl
  · exact h.elim
def hexD : ByteArray := ⟨#[48, 49, 50, 51, 52, 53, 54, 55, 56, 57, 97, 98, 99, 100, 101, 102]⟩
def hx (t : ByteArray) (i : Int) : Int := ixB hexD (byteAt t i)
def hxE (t : ByteArray) (i : Int) : Elem ku := (IntKind.u8.wrap (IntKind.i64.wrap (IntKind.i64.wrap (16 * hx t i) + hx t (i + 1))), ())
def unh (t : ByteArray) (j : Nat) : List (Elem ku) := (List.range j).map fun (q : Nat) => hxE t (2 * (q : Int))
def badH (t : ByteArray) (q : Nat) : Bool := decide (hx t (2 * (q : Int)) < 0) || decide (hx t (2 * (q : Int) + 1) < 0)
def okH (t : ByteArray) : Bool := decide ((t.size : Int).tmod 2 = 0) && !anyB (t.size / 2) (badH t)
def unhR (t : ByteArray) : ByteArray := match okH t with
  | true => strOf (unh t (t.size / 2))
  | false => ByteArray.empty
def g21 : G1
  | [.val (.string t)], [], k => br (decide (t.size ≤ 1048576)) (k ⟨.tup [.val (.string (unhR t)), .val (.bool (okH t))], [], []⟩) False
  | _, _, _ => False
theorem byteAt_le (t : ByteArray) (i : Int) : 0 ≤ byteAt t i ∧ byteAt t i ≤ 255 := by
  unfold byteAt
  split
  · rename_i h
    have := (t[i.toNat]'h).toNat_lt
    omega
  · omega
noncomputable def E21 : Env := E0.of Try.f21
noncomputable def G21 : Gk := gk [(66, g66)]
noncomputable def lp21 (n : Nat) : Code := (loopOf n (codeOf Try.f21)).getD .skip
noncomputable def ct21 (L : Lp) (R : Option Res → Prop) (n : Nat) : Kt := contOf E21 G21 L n (codeOf Try.f21) (endK E21 Try.f21.results.toList R)
noncomputable def rk21 (L : Lp) (R : Option Res → Prop) (n : Nat) (N : St → Prop) : Kt := rk (jof E21 (lp21 n)) N (ct21 L R n)
noncomputable def LOOP21 (L : Lp) (R : Option Res → Prop) (n : Nat) (st : St) : Prop := L (lp21 n) st (ct21 L R n)
theorem hg21 : HG Try.prog G21 := (hg_cons h66 hg_nil)
theorem okf21 : Ok Try.prog E21 := ok0.of Try.f21
theorem e21 (L : Lp) (R : Option Res → Prop) (t : ByteArray) : (bodyP E0 G21 L Try.f21 [.val (.string t)] [] R) = (
    br (decide ((↑t.size : Int).tmod 2 > 0)) (R (some { av := AV.tup [vS { data := #[] }, vB false], obs := [], outs := [] })) (LOOP21 L R 5 { tm := [vS t, vU, vS { data := #[] }, vB false, AV.ows 0, vI 0, vJ, vJ, vJ, vJ, vJ, vJ, vJ, vJ, vJ, vJ, vJ, vJ, vJ, vJ, vJ, vJ, vJ, vJ, vJ, vJ, vJ, vJ, vJ, vJ, vJ, vJ, vJ, vJ, vJ, vJ, vJ, vJ, vJ, vJ, vJ, vJ, vU, vU], ob := [(0, AO.row ku [])], nx := 1000000, ps := [] })) := by kernel_rfl
def st21 (t : ByteArray) (i : Int) (xs : List (Elem [.int .u8])) : St :=  ⟨[vS t, vU, vS { data := #[] }, vB false, AV.ows 0, .val (.int .i64 i), vJ, vJ, vJ, vJ, vJ, vJ, vJ, vJ, vJ, vJ, vJ, vJ, vJ, vJ, vJ, vJ, vJ, vJ, vJ, vJ, vJ, vJ, vJ, vJ, vJ, vJ, vJ, vJ, vJ, vJ, vJ, vJ, vJ, vJ, vJ, vJ, vU, vU], [(0, .row [.int .u8] xs)], 1000000, []⟩
theorem b21 (L : Lp) (R : Option Res → Prop) (N : St → Prop) (t : ByteArray) (i : Int) (xs : List (Elem [.int .u8])) : (evP E21 G21 L (lp21 5) (st21 t i xs) (rk21 L R 5 N)) = (
    br (decide (i < (↑t.size : Int))) (br (decide (0 ≤ i ∧ i < (↑t.size : Int))) (br (true && (decide (0 ≤ byteAt t i) && decide (byteAt t i ≤ 255))) (br (decide (0 ≤ IntKind.i64.wrap (i + 1) ∧ IntKind.i64.wrap (i + 1) < (↑t.size : Int))) (br (true && (decide (0 ≤ byteAt t (IntKind.i64.wrap (i + 1))) && decide (byteAt t (IntKind.i64.wrap (i + 1)) ≤ 255))) (br (decide (ixB { data := #[48, 49, 50, 51, 52, 53, 54, 55, 56, 57, 97, 98, 99, 100, 101, 102] } (byteAt t i) < 0)) (R (some { av := AV.tup [vS { data := #[] }, vB false], obs := [], outs := [] })) (br (decide (ixB { data := #[48, 49, 50, 51, 52, 53, 54, 55, 56, 57, 97, 98, 99, 100, 101, 102] } (byteAt t (IntKind.i64.wrap (i + 1))) < 0)) (R (some { av := AV.tup [vS { data := #[] }, vB false], obs := [], outs := [] })) (br (decide ((xs.length + [(IntKind.u8.wrap (IntKind.i64.wrap (IntKind.i64.wrap (ixB { data := #[48, 49, 50, 51, 52, 53, 54, 55, 56, 57, 97, 98, 99, 100, 101, 102] } (byteAt t i) * 16) + ixB { data := #[48, 49, 50, 51, 52, 53, 54, 55, 56, 57, 97, 98, 99, 100, 101, 102] } (byteAt t (IntKind.i64.wrap (i + 1))))), ())].length) * 1 ≤ 140737488355328)) (N { tm := [vS t, vU, vS { data := #[] }, vB false, AV.ows 0, vI (IntKind.i64.wrap (i + 2)), vJ, vJ, vJ, vJ, vJ, vJ, vJ, vJ, vJ, vJ, vJ, vJ, vJ, vJ, vJ, vJ, vJ, vJ, vJ, vJ, vJ, vJ, vJ, vJ, vJ, vJ, vJ, vJ, vJ, vJ, vJ, vJ, vJ, vJ, vJ, vJ, vU, vU], ob := [(0, AO.row ku (xs ++ [(IntKind.u8.wrap (IntKind.i64.wrap (IntKind.i64.wrap (ixB { data := #[48, 49, 50, 51, 52, 53, 54, 55, 56, 57, 97, 98, 99, 100, 101, 102] } (byteAt t i) * 16) + ixB { data := #[48, 49, 50, 51, 52, 53, 54, 55, 56, 57, 97, 98, 99, 100, 101, 102] } (byteAt t (IntKind.i64.wrap (i + 1))))), ())]))], nx := 1000000, ps := [] }) False))) False) False) False) False) (R (some { av := AV.tup [vS (strOf xs), vB true], obs := [], outs := [] }))) := by kernel_rfl
theorem h21 : G1Ok Try.prog 21 g21 := by
  intro args obs k h
  unfold g21 at h
  split at h
  · rename_i k t
    obtain ⟨hlen, h⟩ := brd h
    refine ⟨_, ctr_fn ok0 hg21 Try.func21 (by kernel_rfl) (by kernel_rfl) (by kernel_rfl) fun C => ?_, h⟩
    rw [e21]
    have ev : (t.size : Int).tmod 2 = ((t.size % 2 : Nat) : Int) := rfl
    refine br_dec (fun h1 => ?_) (fun h1 => ?_)
    · have hk : okH t = false := by
        unfold okH
        rw [show decide ((t.size : Int).tmod 2 = 0) = false from decide_eq_false (by omega)]
        rfl
      show _ = _
      unfold unhR
      rw [hk]
      rfl
    have h2 : (t.size : Int).tmod 2 = 0 := by omega
    have h2' : t.size % 2 = 0 := by omega
    refine loopUp okf21 hg21 (fun i xs => st21 t (2 * i) xs) (t.size / 2) (fun i xs => xs = unh t i ∧ ∀ q, q < i → badH t q = false) (fun N i xs hi ⟨hx1, hall⟩ next => ?_) [] ⟨rfl, fun q hq => by omega⟩
    show evP E21 G21 _ (lp21 5) (st21 t (2 * (i : Int)) xs) (rk21 _ _ 5 _)
    rw [b21, wrap_id (n := 2 * (i : Int) + 1) (by omega) (by omega), wrap_id (n := 2 * (i : Int) + 2) (by omega) (by omega)]
    show br _ (br _ (br _ (br _ (br _ (br (decide (hx t (2 * (i : Int)) < 0)) _ (br (decide (hx t (2 * (i : Int) + 1) < 0)) _ (br _ (N (st21 t (2 * (i : Int) + 2) (xs ++ [(IntKind.u8.wrap (IntKind.i64.wrap (IntKind.i64.wrap (hx t (2 * (i : Int)) * 16) + hx t (2 * (i : Int) + 1))), ())]))) False))) False) False) False) False) _
    have by1 := byteAt_le t (2 * (i : Int))
    have by2 := byteAt_le t (2 * (i : Int) + 1)
    have fails : i < t.size / 2 → badH t i = true → (some ⟨.tup [.val (.string ⟨#[]⟩), .val (.bool false)], [], []⟩ : Option Res) = some ⟨.tup [.val (.string (unhR t)), .val (.bool (okH t))], [], []⟩ := by
      intro q1 q2
      have hk : okH t = false := by
        unfold okH
        rw [show anyB (t.size / 2) (badH t) = true from anyB_t q1 q2]
        simp
      unfold unhR
      rw [hk]
      rfl
    refine br_dec (fun h3 => br_yes ⟨by omega, h3⟩ (br_t (by simp; omega) (br_yes ⟨by omega, by omega⟩ (br_t (by simp; omega) (br_intro (fun h4 => ?_) (fun h4 => br_intro (fun h5 => ?_) (fun h5 => br_yes ?_ ?_))))))) (fun h3 => ?_)
    · exact fails (by omega) (by unfold badH; rw [h4]; rfl)
    · exact fails (by omega) (by unfold badH; rw [h5, Bool.or_true])
    · show (xs.length + 1) * 1 ≤ _
      have : xs.length = i := by rw [hx1]; simp [unh]
      omega
    · rw [show 2 * (i : Int) + 2 = 2 * ((i : Int) + 1) from by omega, Int.mul_comm (hx t (2 * (i : Int))) 16]
      refine next (by omega) _ ⟨?_, fun q hq => ?_⟩
      · rw [hx1]
        unfold unh
        rw [List.range_succ, List.map_append]
        rfl
      · by_cases e : q < i
        · exact hall q e
        · have : q = i := by omega
          rw [this]
          unfold badH
          rw [h4, h5]
          rfl
    · have hk : okH t = true := by
        unfold okH
        rw [decide_eq_true h2, show anyB (t.size / 2) (badH t) = false from anyB_f fun q hq => hall q (by omega)]
        rfl
      have hi' : i = t.size / 2 := by omega
      show _ = _
      unfold unhR
      rw [hk, hx1, hi']
  · exact h.elim
noncomputable def E22 : Env := E0.of Try.f22
noncomputable def G22 : Gk := gk [(67, g66)]
noncomputable def lp22 (n : Nat) : Code := (loopOf n (codeOf Try.f22)).getD .skip
noncomputable def ct22 (L : Lp) (R : Option Res → Prop) (n : Nat) : Kt := contOf E22 G22 L n (codeOf Try.f22) (endK E22 Try.f22.results.toList R)
noncomputable def rk22 (L : Lp) (R : Option Res → Prop) (n : Nat) (N : St → Prop) : Kt := rk (jof E22 (lp22 n)) N (ct22 L R n)
noncomputable def LOOP22 (L : Lp) (R : Option Res → Prop) (n : Nat) (st : St) : Prop := L (lp22 n) st (ct22 L R n)
theorem hg22 : HG Try.prog G22 := (hg_cons h67 hg_nil)
theorem okf22 : Ok Try.prog E22 := ok0.of Try.f22
theorem e22 (L : Lp) (R : Option Res → Prop) (t : ByteArray) : (bodyP E0 G22 L Try.f22 [.val (.string t)] [] R) = (
    br ((↑t.size : Int).tmod 2 != 0) (R (some { av := AV.tup [vS { data := #[] }, vB false], obs := [], outs := [] })) (LOOP22 L R 5 { tm := [vS t, vU, vS { data := #[] }, vB false, AV.ows 0, vI 0, vJ, vJ, vJ, vJ, vJ, vJ, vJ, vJ, vJ, vJ, vJ, vJ, vJ, vJ, vJ, vJ, vJ, vJ, vJ, vJ, vJ, vJ, vJ, vJ, vJ, vJ, vJ, vJ, vJ, vJ, vJ, vJ, vJ, vJ, vJ, vU, vU], ob := [(0, AO.row ku [])], nx := 1000000, ps := [] })) := by kernel_rfl
def st22 (t : ByteArray) (i : Int) (xs : List (Elem [.int .u8])) : St :=  ⟨[vS t, vU, vS { data := #[] }, vB false, AV.ows 0, .val (.int .i64 i), vJ, vJ, vJ, vJ, vJ, vJ, vJ, vJ, vJ, vJ, vJ, vJ, vJ, vJ, vJ, vJ, vJ, vJ, vJ, vJ, vJ, vJ, vJ, vJ, vJ, vJ, vJ, vJ, vJ, vJ, vJ, vJ, vJ, vJ, vJ, vU, vU], [(0, .row [.int .u8] xs)], 1000000, []⟩
theorem b22 (L : Lp) (R : Option Res → Prop) (N : St → Prop) (t : ByteArray) (i : Int) (xs : List (Elem [.int .u8])) : (evP E22 G22 L (lp22 5) (st22 t i xs) (rk22 L R 5 N)) = (
    br (decide (i < (↑t.size : Int))) (br (decide (0 ≤ i ∧ i < (↑t.size : Int))) (br (true && (decide (0 ≤ byteAt t i) && decide (byteAt t i ≤ 255))) (br (decide (0 ≤ IntKind.i64.wrap (i + 1) ∧ IntKind.i64.wrap (i + 1) < (↑t.size : Int))) (br (true && (decide (0 ≤ byteAt t (IntKind.i64.wrap (i + 1))) && decide (byteAt t (IntKind.i64.wrap (i + 1)) ≤ 255))) (br (decide (ixB { data := #[48, 49, 50, 51, 52, 53, 54, 55, 56, 57, 97, 98, 99, 100, 101, 102] } (byteAt t i) < 0)) (R (some { av := AV.tup [vS { data := #[] }, vB false], obs := [], outs := [] })) (br (decide (ixB { data := #[48, 49, 50, 51, 52, 53, 54, 55, 56, 57, 97, 98, 99, 100, 101, 102] } (byteAt t (IntKind.i64.wrap (i + 1))) < 0)) (R (some { av := AV.tup [vS { data := #[] }, vB false], obs := [], outs := [] })) (br (decide ((xs.length + [(IntKind.u8.wrap (IntKind.i64.wrap (IntKind.i64.wrap (16 * ixB { data := #[48, 49, 50, 51, 52, 53, 54, 55, 56, 57, 97, 98, 99, 100, 101, 102] } (byteAt t i)) + ixB { data := #[48, 49, 50, 51, 52, 53, 54, 55, 56, 57, 97, 98, 99, 100, 101, 102] } (byteAt t (IntKind.i64.wrap (i + 1))))), ())].length) * 1 ≤ 140737488355328)) (N { tm := [vS t, vU, vS { data := #[] }, vB false, AV.ows 0, vI (IntKind.i64.wrap (i + 2)), vJ, vJ, vJ, vJ, vJ, vJ, vJ, vJ, vJ, vJ, vJ, vJ, vJ, vJ, vJ, vJ, vJ, vJ, vJ, vJ, vJ, vJ, vJ, vJ, vJ, vJ, vJ, vJ, vJ, vJ, vJ, vJ, vJ, vJ, vJ, vU, vU], ob := [(0, AO.row ku (xs ++ [(IntKind.u8.wrap (IntKind.i64.wrap (IntKind.i64.wrap (16 * ixB { data := #[48, 49, 50, 51, 52, 53, 54, 55, 56, 57, 97, 98, 99, 100, 101, 102] } (byteAt t i)) + ixB { data := #[48, 49, 50, 51, 52, 53, 54, 55, 56, 57, 97, 98, 99, 100, 101, 102] } (byteAt t (IntKind.i64.wrap (i + 1))))), ())]))], nx := 1000000, ps := [] }) False))) False) False) False) False) (R (some { av := AV.tup [vS (strOf xs), vB true], obs := [], outs := [] }))) := by kernel_rfl
theorem h22 : G1Ok Try.prog 22 g21 := by
  intro args obs k h
  unfold g21 at h
  split at h
  · rename_i k t
    obtain ⟨hlen, h⟩ := brd h
    refine ⟨_, ctr_fn ok0 hg22 Try.func22 (by kernel_rfl) (by kernel_rfl) (by kernel_rfl) fun C => ?_, h⟩
    rw [e22]
    have ev : (t.size : Int).tmod 2 = ((t.size % 2 : Nat) : Int) := rfl
    refine br_bne (fun h1 => ?_) (fun h1 => ?_)
    · have hk : okH t = false := by
        unfold okH
        rw [show decide ((t.size : Int).tmod 2 = 0) = false from decide_eq_false (by simpa using h1)]
        rfl
      show _ = _
      unfold unhR
      rw [hk]
      rfl
    have h2 : (t.size : Int).tmod 2 = 0 := by simpa using h1
    have h2' : t.size % 2 = 0 := by omega
    refine loopUp okf22 hg22 (fun i xs => st22 t (2 * i) xs) (t.size / 2) (fun i xs => xs = unh t i ∧ ∀ q, q < i → badH t q = false) (fun N i xs hi ⟨hx1, hall⟩ next => ?_) [] ⟨rfl, fun q hq => by omega⟩
    show evP E22 G22 _ (lp22 5) (st22 t (2 * (i : Int)) xs) (rk22 _ _ 5 _)
    rw [b22, wrap_id (n := 2 * (i : Int) + 1) (by omega) (by omega), wrap_id (n := 2 * (i : Int) + 2) (by omega) (by omega)]
    show br _ (br _ (br _ (br _ (br _ (br (decide (hx t (2 * (i : Int)) < 0)) _ (br (decide (hx t (2 * (i : Int) + 1) < 0)) _ (br _ (N (st22 t (2 * (i : Int) + 2) (xs ++ [(IntKind.u8.wrap (IntKind.i64.wrap (IntKind.i64.wrap (16 * hx t (2 * (i : Int))) + hx t (2 * (i : Int) + 1))), ())]))) False))) False) False) False) False) _
    have by1 := byteAt_le t (2 * (i : Int))
    have by2 := byteAt_le t (2 * (i : Int) + 1)
    have fails : i < t.size / 2 → badH t i = true → (some ⟨.tup [.val (.string ⟨#[]⟩), .val (.bool false)], [], []⟩ : Option Res) = some ⟨.tup [.val (.string (unhR t)), .val (.bool (okH t))], [], []⟩ := by
      intro q1 q2
      have hk : okH t = false := by
        unfold okH
        rw [show anyB (t.size / 2) (badH t) = true from anyB_t q1 q2]
        simp
      unfold unhR
      rw [hk]
      rfl
    refine br_dec (fun h3 => br_yes ⟨by omega, h3⟩ (br_t (by simp; omega) (br_yes ⟨by omega, by omega⟩ (br_t (by simp; omega) (br_intro (fun h4 => ?_) (fun h4 => br_intro (fun h5 => ?_) (fun h5 => br_yes ?_ ?_))))))) (fun h3 => ?_)
    · exact fails (by omega) (by unfold badH; rw [h4]; rfl)
    · exact fails (by omega) (by unfold badH; rw [h5, Bool.or_true])
    · show (xs.length + 1) * 1 ≤ _
      have : xs.length = i := by rw [hx1]; simp [unh]
      omega
    · rw [show 2 * (i : Int) + 2 = 2 * ((i : Int) + 1) from by omega]
      refine next (by omega) _ ⟨?_, fun q hq => ?_⟩
      · rw [hx1]
        unfold unh
        rw [List.range_succ, List.map_append]
        rfl
      · by_cases e : q < i
        · exact hall q e
        · have : q = i := by omega
          rw [this]
          unfold badH
          rw [h4, h5]
          rfl
    · have hk : okH t = true := by
        unfold okH
        rw [decide_eq_true h2, show anyB (t.size / 2) (badH t) = false from anyB_f fun q hq => hall q (by omega)]
        rfl
      have hi' : i = t.size / 2 := by omega
      show _ = _
      unfold unhR
      rw [hk, hx1, hi']
  · exact h.elim
noncomputable def E4 : Env := E0.of Try.f4
noncomputable def G4 : Gk := gk [(21, g21), (22, g21)]
noncomputable def lp4 (n : Nat) : Code := (loopOf n (codeOf Try.f4)).getD .skip
noncomputable def ct4 (L : Lp) (R : Option Res → Prop) (n : Nat) : Kt := contOf E4 G4 L n (codeOf Try.f4) (endK E4 Try.f4.results.toList R)
noncomputable def rk4 (L : Lp) (R : Option Res → Prop) (n : Nat) (N : St → Prop) : Kt := rk (jof E4 (lp4 n)) N (ct4 L R n)
noncomputable def LOOP4 (L : Lp) (R : Option Res → Prop) (n : Nat) (st : St) : Prop := L (lp4 n) st (ct4 L R n)
theorem hg4 : HG Try.prog G4 := (hg_cons h21 (hg_cons h22 hg_nil))
theorem okf4 : Ok Try.prog E4 := ok0.of Try.f4
theorem e4 (L : Lp) (R : Option Res → Prop) (t : ByteArray) : (bodyP E0 G4 L Try.f4 [.val (.string t)] [] R) = (
    br (decide ((↑t.size : Int) > 1048576)) (R (some { av := vB true, obs := [], outs := [] })) (br (decide (t.size ≤ 1048576)) (br (decide (t.size ≤ 1048576)) (br (!strEq (unhR t) (unhR t)) (R (some { av := vB false, obs := [], outs := [] })) (br (!okH t == okH t) (R (some { av := vB false, obs := [], outs := [] })) (R (some { av := vB true, obs := [], outs := [] })))) False) False)) := by kernel_rfl
theorem c4 (t : ByteArray) : Ctr Try.prog 4 [.val (.string t)] [] ⟨.val (.bool true), [], []⟩ := by
  refine ctr_fn ok0 hg4 Try.func4 (by kernel_rfl) (by kernel_rfl) (by kernel_rfl) fun C => ?_
  rw [e4]
  refine br_dec (fun _ => rfl) (fun h0 => ?_)
  have hd : decide (t.size ≤ 1048576) = true := decide_eq_true (by omega)
  refine br_t hd (br_t hd (br_not (fun h => ?_) (fun _ => br_intro (fun h => ?_) (fun _ => rfl))))
  · simp [strEq] at h
  · simp at h
end Go.Proofs.Ytjhjhkphcemcmaa.Ev
