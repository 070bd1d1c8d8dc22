/- Hexadecimals. -/
import Derived.Test.YtkjnijddbiconaaDoorD2
namespace Go.Proofs.YtkjnijddbiconaaDoor.Ev
open Go
set_option linter.unusedVariables false
set_option linter.unusedSimpArgs false
set_option maxRecDepth 100000
theorem h82 : G1Ok Tryd.prog 82 g36 := by
  intro args obs k h
  unfold g36 at h
  split at h
  · rename_i k t b
    obtain ⟨hp, h⟩ := br_and h
    simp only [Bool.and_eq_true, decide_eq_true_eq] at hp
    refine ⟨_, ctr_ext (e := Extern.BytealgIndexByte.indexByte) (us := [.string t, .int .u8 b]) Tryd.func82 (by kernel_rfl) (by kernel_rfl) (by kernel_rfl) (by kernel_rfl) fun w => run_indexByte_string t b w, ?_⟩
    rw [firstIdx_ix t hp.2.1 hp.2.2]
    exact h
  · exact h.elim
noncomputable def G56 : Gk := gk [(82, g36)]
theorem hg56 : HG Tryd.prog G56 := (hg_cons h82 hg_nil)
theorem e56 (L : Lp) (R : Option Res → Prop) (t : ByteArray) (b : Int) : (bodyP E0 G56 L Tryd.f56 [.val (.string t), .val (.int .u8 b)] [] R) = (
    br (decide (t.size ≤ 1048576) && (decide (0 ≤ b) && decide (b ≤ 255))) (R (some { av := vI (ixB t b), obs := [], outs := [] })) False) := by kernel_rfl
theorem h56 : G1Ok Tryd.prog 56 g36 := by
  intro args obs k h
  unfold g36 at h
  split at h
  · rename_i k t b
    obtain ⟨hp, h⟩ := br_and h
    refine ⟨_, ctr_fn ok0 hg56 Tryd.func56 (by kernel_rfl) (by kernel_rfl) (by kernel_rfl) fun C => ?_, h⟩
    rw [e56]
    exact br_t hp rfl
  · exact h.elim
noncomputable def G32 : Gk := gk [(56, g36)]
theorem hg32 : HG Tryd.prog G32 := (hg_cons h56 hg_nil)
theorem e32 (L : Lp) (R : Option Res → Prop) (t : ByteArray) (b : Int) : (bodyP E0 G32 L Tryd.f32 [.val (.string t), .val (.int .u8 b)] [] R) = (
    br (decide (t.size ≤ 1048576) && (decide (0 ≤ b) && decide (b ≤ 255))) (R (some { av := vI (ixB t b), obs := [], outs := [] })) False) := by kernel_rfl
theorem h32 : G1Ok Tryd.prog 32 g36 := by
  intro args obs k h
  unfold g36 at h
  split at h
  · rename_i k t b
    obtain ⟨hp, h⟩ := br_and h
    refine ⟨_, ctr_fn ok0 hg32 Tryd.func32 (by kernel_rfl) (by kernel_rfl) (by kernel_rfl) fun C => ?_, h⟩
    rw [e32]
    exact br_t hp rfl
  · exact h.elim
def hexD : ByteArray := ⟨#[48, 49, 50, 51, 52, 53, 54, 55, 56, 57, 97, 98, 99, 100, 101, 102]⟩
def hx (t : ByteArray) (i : Int) : Int := ixB hexD (byteAt t i)
def hxE (t : ByteArray) (i : Int) : Elem ku := (IntKind.u8.wrap (IntKind.i64.wrap (IntKind.i64.wrap (16 * hx t i) + hx t (i + 1))), ())
def unh (t : ByteArray) (j : Nat) : List (Elem ku) := (List.range j).map fun (q : Nat) => hxE t (2 * (q : Int))
def badH (t : ByteArray) (q : Nat) : Bool := decide (hx t (2 * (q : Int)) < 0) || decide (hx t (2 * (q : Int) + 1) < 0)
def okH (t : ByteArray) : Bool := decide ((t.size : Int).tmod 2 = 0) && !anyB (t.size / 2) (badH t)
def unhR (t : ByteArray) : ByteArray := match okH t with
  | true => strOf (unh t (t.size / 2))
  | false => ByteArray.empty
def g12 : G1
  | [.val (.string t)], [], k => br (decide (t.size ≤ 1048576)) (k ⟨.tup [.val (.string (unhR t)), .val (.bool (okH t))], [], []⟩) False
  | _, _, _ => False
theorem byteAt_le (t : ByteArray) (i : Int) : 0 ≤ byteAt t i ∧ byteAt t i ≤ 255 := by
  unfold byteAt
  split
  · rename_i h
    have := (t[i.toNat]'h).toNat_lt
    omega
  · omega
noncomputable def E12 : Env := E0.of Tryd.f12
noncomputable def G12 : Gk := gk [(32, g36)]
noncomputable def lp12 (n : Nat) : Code := (loopOf n (codeOf Tryd.f12)).getD .skip
noncomputable def ct12 (L : Lp) (R : Option Res → Prop) (n : Nat) : Kt := contOf E12 G12 L n (codeOf Tryd.f12) (endK E12 Tryd.f12.results.toList R)
noncomputable def rk12 (L : Lp) (R : Option Res → Prop) (n : Nat) (N : St → Prop) : Kt := rk (jof E12 (lp12 n)) N (ct12 L R n)
noncomputable def LOOP12 (L : Lp) (R : Option Res → Prop) (n : Nat) (st : St) : Prop := L (lp12 n) st (ct12 L R n)
theorem hg12 : HG Tryd.prog G12 := (hg_cons h32 hg_nil)
theorem okf12 : Ok Tryd.prog E12 := ok0.of Tryd.f12
theorem e12 (L : Lp) (R : Option Res → Prop) (t : ByteArray) : (bodyP E0 G12 L Tryd.f12 [.val (.string t)] [] R) = (
    br ((↑t.size : Int).tmod 2 != 0) (R (some { av := AV.tup [vS { data := #[] }, vB false], obs := [], outs := [] })) (LOOP12 L R 5 { tm := [vS t, vU, vS { data := #[] }, vB false, AV.ows 0, vI 0, vJ, vJ, vJ, vJ, vJ, vJ, vJ, vJ, vJ, vJ, vJ, vJ, vJ, vJ, vJ, vJ, vJ, vJ, vJ, vJ, vJ, vJ, vJ, vJ, vJ, vJ, vJ, vJ, vJ, vJ, vJ, vJ, vJ, vJ, vJ, vU, vU], ob := [(0, AO.row ku [])], nx := 1000000, ps := [] })) := by kernel_rfl
def st12 (t : ByteArray) (i : Int) (xs : List (Elem [.int .u8])) : St :=  ⟨[vS t, vU, vS { data := #[] }, vB false, AV.ows 0, .val (.int .i64 i), vJ, vJ, vJ, vJ, vJ, vJ, vJ, vJ, vJ, vJ, vJ, vJ, vJ, vJ, vJ, vJ, vJ, vJ, vJ, vJ, vJ, vJ, vJ, vJ, vJ, vJ, vJ, vJ, vJ, vJ, vJ, vJ, vJ, vJ, vJ, vU, vU], [(0, .row [.int .u8] xs)], 1000000, []⟩
theorem b12 (L : Lp) (R : Option Res → Prop) (N : St → Prop) (t : ByteArray) (i : Int) (xs : List (Elem [.int .u8])) : (evP E12 G12 L (lp12 5) (st12 t i xs) (rk12 L R 5 N)) = (
    br (decide (i < (↑t.size : Int))) (br (decide (0 ≤ i ∧ i < (↑t.size : Int))) (br (true && (decide (0 ≤ byteAt t i) && decide (byteAt t i ≤ 255))) (br (decide (0 ≤ IntKind.i64.wrap (i + 1) ∧ IntKind.i64.wrap (i + 1) < (↑t.size : Int))) (br (true && (decide (0 ≤ byteAt t (IntKind.i64.wrap (i + 1))) && decide (byteAt t (IntKind.i64.wrap (i + 1)) ≤ 255))) (br (decide (ixB { data := #[48, 49, 50, 51, 52, 53, 54, 55, 56, 57, 97, 98, 99, 100, 101, 102] } (byteAt t i) < 0)) (R (some { av := AV.tup [vS { data := #[] }, vB false], obs := [], outs := [] })) (br (decide (ixB { data := #[48, 49, 50, 51, 52, 53, 54, 55, 56, 57, 97, 98, 99, 100, 101, 102] } (byteAt t (IntKind.i64.wrap (i + 1))) < 0)) (R (some { av := AV.tup [vS { data := #[] }, vB false], obs := [], outs := [] })) (br (decide ((xs.length + [(IntKind.u8.wrap (IntKind.i64.wrap (IntKind.i64.wrap (16 * ixB { data := #[48, 49, 50, 51, 52, 53, 54, 55, 56, 57, 97, 98, 99, 100, 101, 102] } (byteAt t i)) + ixB { data := #[48, 49, 50, 51, 52, 53, 54, 55, 56, 57, 97, 98, 99, 100, 101, 102] } (byteAt t (IntKind.i64.wrap (i + 1))))), ())].length) * 1 ≤ 140737488355328)) (N { tm := [vS t, vU, vS { data := #[] }, vB false, AV.ows 0, vI (IntKind.i64.wrap (i + 2)), vJ, vJ, vJ, vJ, vJ, vJ, vJ, vJ, vJ, vJ, vJ, vJ, vJ, vJ, vJ, vJ, vJ, vJ, vJ, vJ, vJ, vJ, vJ, vJ, vJ, vJ, vJ, vJ, vJ, vJ, vJ, vJ, vJ, vJ, vJ, vU, vU], ob := [(0, AO.row ku (xs ++ [(IntKind.u8.wrap (IntKind.i64.wrap (IntKind.i64.wrap (16 * ixB { data := #[48, 49, 50, 51, 52, 53, 54, 55, 56, 57, 97, 98, 99, 100, 101, 102] } (byteAt t i)) + ixB { data := #[48, 49, 50, 51, 52, 53, 54, 55, 56, 57, 97, 98, 99, 100, 101, 102] } (byteAt t (IntKind.i64.wrap (i + 1))))), ())]))], nx := 1000000, ps := [] }) False))) False) False) False) False) (R (some { av := AV.tup [vS (strOf xs), vB true], obs := [], outs := [] }))) := by kernel_rfl
theorem h12 : G1Ok Tryd.prog 12 g12 := by
  intro args obs k h
  unfold g12 at h
  split at h
  · rename_i k t
    obtain ⟨hlen, h⟩ := brd h
    refine ⟨_, ctr_fn ok0 hg12 Tryd.func12 (by kernel_rfl) (by kernel_rfl) (by kernel_rfl) fun C => ?_, h⟩
    rw [e12]
    have ev : (t.size : Int).tmod 2 = ((t.size % 2 : Nat) : Int) := rfl
    refine br_bne (fun h1 => ?_) (fun h1 => ?_)
    · have hk : okH t = false := by
        unfold okH
        rw [show decide ((t.size : Int).tmod 2 = 0) = false from decide_eq_false (by simpa using h1)]
        rfl
      show _ = _
      unfold unhR
      rw [hk]
      rfl
    have h2 : (t.size : Int).tmod 2 = 0 := by simpa using h1
    have h2' : t.size % 2 = 0 := by omega
    refine loopUp okf12 hg12 (fun i xs => st12 t (2 * i) xs) (t.size / 2) (fun i xs => xs = unh t i ∧ ∀ q, q < i → badH t q = false) (fun N i xs hi ⟨hx1, hall⟩ next => ?_) [] ⟨rfl, fun q hq => by omega⟩
    show evP E12 G12 _ (lp12 5) (st12 t (2 * (i : Int)) xs) (rk12 _ _ 5 _)
    rw [b12, wrap_id (n := 2 * (i : Int) + 1) (by omega) (by omega), wrap_id (n := 2 * (i : Int) + 2) (by omega) (by omega)]
    show br _ (br _ (br _ (br _ (br _ (br (decide (hx t (2 * (i : Int)) < 0)) _ (br (decide (hx t (2 * (i : Int) + 1) < 0)) _ (br _ (N (st12 t (2 * (i : Int) + 2) (xs ++ [(IntKind.u8.wrap (IntKind.i64.wrap (IntKind.i64.wrap (16 * hx t (2 * (i : Int))) + hx t (2 * (i : Int) + 1))), ())]))) False))) False) False) False) False) _
    have by1 := byteAt_le t (2 * (i : Int))
    have by2 := byteAt_le t (2 * (i : Int) + 1)
    have fails : i < t.size / 2 → badH t i = true → (some ⟨.tup [.val (.string ⟨#[]⟩), .val (.bool false)], [], []⟩ : Option Res) = some ⟨.tup [.val (.string (unhR t)), .val (.bool (okH t))], [], []⟩ := by
      intro q1 q2
      have hk : okH t = false := by
        unfold okH
        rw [show anyB (t.size / 2) (badH t) = true from anyB_t q1 q2]
        simp
      unfold unhR
      rw [hk]
      rfl
    refine br_dec (fun h3 => br_yes ⟨by omega, h3⟩ (br_t (by simp; omega) (br_yes ⟨by omega, by omega⟩ (br_t (by simp; omega) (br_intro (fun h4 => ?_) (fun h4 => br_intro (fun h5 => ?_) (fun h5 => br_yes ?_ ?_))))))) (fun h3 => ?_)
    · exact fails (by omega) (by unfold badH; rw [h4]; rfl)
    · exact fails (by omega) (by unfold badH; rw [h5, Bool.or_true])
    · show (xs.length + 1) * 1 ≤ _
      have : xs.length = i := by rw [hx1]; simp [unh]
      omega
    · rw [show 2 * (i : Int) + 2 = 2 * ((i : Int) + 1) from by omega]
      refine next (by omega) _ ⟨?_, fun q hq => ?_⟩
      · rw [hx1]
        unfold unh
        rw [List.range_succ, List.map_append]
        rfl
      · by_cases e : q < i
        · exact hall q e
        · have : q = i := by omega
          rw [this]
          unfold badH
          rw [h4, h5]
          rfl
    · have hk : okH t = true := by
        unfold okH
        rw [decide_eq_true h2, show anyB (t.size / 2) (badH t) = false from anyB_f fun q hq => hall q (by omega)]
        rfl
      have hi' : i = t.size / 2 := by omega
      show _ = _
      unfold unhR
      rw [hk, hx1, hi']
  · exact h.elim
end Go.Proofs.YtkjnijddbiconaaDoor.Ev
