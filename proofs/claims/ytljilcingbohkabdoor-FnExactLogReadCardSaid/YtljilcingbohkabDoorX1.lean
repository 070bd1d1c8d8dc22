/- Bytes of hexadecimal digits: contracts. -/
import Derived.Test.YtljilcingbohkabDoorD2
import Derived.Test.YtljilcingbohkabDoorD9
import Derived.Lib.Bytealg
namespace Go.Proofs.YtljilcingbohkabDoor.Ev
open Go
set_option linter.unusedVariables false
set_option linter.unusedSimpArgs false
set_option maxRecDepth 100000
theorem h216 : G1Ok Tryd.prog 216 g140 := by
  intro args obs k h
  unfold g140 at h
  split at h
  · rename_i k t b
    obtain ⟨hp, h⟩ := br_and h
    simp only [Bool.and_eq_true, decide_eq_true_eq] at hp
    refine ⟨_, ctr_ext (e := Extern.BytealgIndexByte.indexByte) (us := [.string t, .int .u8 b]) Tryd.func216 (by kernel_rfl) (by kernel_rfl) (by kernel_rfl) (by kernel_rfl) fun w => run_indexByte_string t b w, ?_⟩
    rw [firstIdx_ix t hp.2.1 hp.2.2]
    exact h
  · exact h.elim
noncomputable def E186 : Env := E0.of Tryd.f186
noncomputable def G186 : Gk := gk [(216, g140)]
noncomputable def lp186 (n : Nat) : Code := (loopOf n (codeOf Tryd.f186)).getD .skip
noncomputable def ct186 (L : Lp) (R : Option Res → Prop) (n : Nat) : Kt := contOf E186 G186 L n (codeOf Tryd.f186) (endK E186 Tryd.f186.results.toList R)
noncomputable def rk186 (L : Lp) (R : Option Res → Prop) (n : Nat) (N : St → Prop) : Kt := rk (jof E186 (lp186 n)) N (ct186 L R n)
noncomputable def rkn186 (L : Lp) (R : Option Res → Prop) (n : Nat) (N : St → Prop) (m : Nat) (N2 : St → Prop) : Kt := rk (jof E186 (lp186 m)) N2 (contOf E186 G186 L m (lp186 n) (rk186 L R n N))
noncomputable def LOOPN186 (L : Lp) (R : Option Res → Prop) (n : Nat) (N : St → Prop) (m : Nat) (st : St) : Prop := L (lp186 m) st (contOf E186 G186 L m (lp186 n) (rk186 L R n N))
noncomputable def LOOP186 (L : Lp) (R : Option Res → Prop) (n : Nat) (st : St) : Prop := L (lp186 n) st (ct186 L R n)
theorem hg186 : HG Tryd.prog G186 := (hg_cons h216 hg_nil)
theorem okf186 : Ok Tryd.prog E186 := ok0.of Tryd.f186
theorem e186 (L : Lp) (R : Option Res → Prop) (t : ByteArray) (b : Int) : (bodyP E0 G186 L Tryd.f186 [.val (.string t), .val (.int .u8 b)] [] R) = (
    br (decide (t.size ≤ 1048576) && (decide (0 ≤ b) && decide (b ≤ 255))) (R (some { av := vI (ixB t b), obs := [], outs := [] })) False) := by kernel_rfl
theorem h186 : G1Ok Tryd.prog 186 g140 := by
  intro args obs k h
  unfold g140 at h
  split at h
  · rename_i k t b
    obtain ⟨hp, h⟩ := br_and h
    refine ⟨_, ctr_fn ok0 hg186 Tryd.func186 (by kernel_rfl) (by kernel_rfl) (by kernel_rfl) fun C => ?_, h⟩
    rw [e186]
    exact br_t hp rfl
  · exact h.elim
noncomputable def E147 : Env := E0.of Tryd.f147
noncomputable def G147 : Gk := gk [(186, g140)]
noncomputable def lp147 (n : Nat) : Code := (loopOf n (codeOf Tryd.f147)).getD .skip
noncomputable def ct147 (L : Lp) (R : Option Res → Prop) (n : Nat) : Kt := contOf E147 G147 L n (codeOf Tryd.f147) (endK E147 Tryd.f147.results.toList R)
noncomputable def rk147 (L : Lp) (R : Option Res → Prop) (n : Nat) (N : St → Prop) : Kt := rk (jof E147 (lp147 n)) N (ct147 L R n)
noncomputable def rkn147 (L : Lp) (R : Option Res → Prop) (n : Nat) (N : St → Prop) (m : Nat) (N2 : St → Prop) : Kt := rk (jof E147 (lp147 m)) N2 (contOf E147 G147 L m (lp147 n) (rk147 L R n N))
noncomputable def LOOPN147 (L : Lp) (R : Option Res → Prop) (n : Nat) (N : St → Prop) (m : Nat) (st : St) : Prop := L (lp147 m) st (contOf E147 G147 L m (lp147 n) (rk147 L R n N))
noncomputable def LOOP147 (L : Lp) (R : Option Res → Prop) (n : Nat) (st : St) : Prop := L (lp147 n) st (ct147 L R n)
theorem hg147 : HG Tryd.prog G147 := (hg_cons h186 hg_nil)
theorem okf147 : Ok Tryd.prog E147 := ok0.of Tryd.f147
theorem e147 (L : Lp) (R : Option Res → Prop) (t : ByteArray) (b : Int) : (bodyP E0 G147 L Tryd.f147 [.val (.string t), .val (.int .u8 b)] [] R) = (
    br (decide (t.size ≤ 1048576) && (decide (0 ≤ b) && decide (b ≤ 255))) (R (some { av := vI (ixB t b), obs := [], outs := [] })) False) := by kernel_rfl
theorem h147 : G1Ok Tryd.prog 147 g140 := by
  intro args obs k h
  unfold g140 at h
  split at h
  · rename_i k t b
    obtain ⟨hp, h⟩ := br_and h
    refine ⟨_, ctr_fn ok0 hg147 Tryd.func147 (by kernel_rfl) (by kernel_rfl) (by kernel_rfl) fun C => ?_, h⟩
    rw [e147]
    exact br_t hp rfl
  · exact h.elim
def hx (t : ByteArray) (i : Int) : Int := ixB hexD (byteAt t i)
def hxE (t : ByteArray) (i : Int) : Elem ku := (IntKind.u8.wrap (IntKind.i64.wrap (IntKind.i64.wrap (16 * hx t i) + hx t (i + 1))), ())
def unh (t : ByteArray) (j : Nat) : List (Elem ku) := (List.range j).map fun (q : Nat) => hxE t (2 * (q : Int))
def badH (t : ByteArray) (q : Nat) : Bool := decide (hx t (2 * (q : Int)) < 0) || decide (hx t (2 * (q : Int) + 1) < 0)
def okH (t : ByteArray) : Bool := decide ((t.size : Int).tmod 2 = 0) && !anyB (t.size / 2) (badH t)
def unhR (t : ByteArray) : ByteArray := match okH t with
  | true => strOf (unh t (t.size / 2))
  | false => ByteArray.empty
def g103 : G1
  | [.val (.string t)], [], k => br (decide (t.size ≤ 1048576)) (k ⟨.tup [.val (.string (unhR t)), .val (.bool (okH t))], [], []⟩) False
  | _, _, _ => False
theorem byteAt_le (t : ByteArray) (i : Int) : 0 ≤ byteAt t i ∧ byteAt t i ≤ 255 := by
  unfold byteAt
  split
  · rename_i h
    have := (t[i.toNat]'h).toNat_lt
    omega
  · omega
noncomputable def E103 : Env := E0.of Tryd.f103
noncomputable def G103 : Gk := gk [(140, g140)]
noncomputable def lp103 (n : Nat) : Code := (loopOf n (codeOf Tryd.f103)).getD .skip
noncomputable def ct103 (L : Lp) (R : Option Res → Prop) (n : Nat) : Kt := contOf E103 G103 L n (codeOf Tryd.f103) (endK E103 Tryd.f103.results.toList R)
noncomputable def rk103 (L : Lp) (R : Option Res → Prop) (n : Nat) (N : St → Prop) : Kt := rk (jof E103 (lp103 n)) N (ct103 L R n)
noncomputable def rkn103 (L : Lp) (R : Option Res → Prop) (n : Nat) (N : St → Prop) (m : Nat) (N2 : St → Prop) : Kt := rk (jof E103 (lp103 m)) N2 (contOf E103 G103 L m (lp103 n) (rk103 L R n N))
noncomputable def LOOPN103 (L : Lp) (R : Option Res → Prop) (n : Nat) (N : St → Prop) (m : Nat) (st : St) : Prop := L (lp103 m) st (contOf E103 G103 L m (lp103 n) (rk103 L R n N))
noncomputable def LOOP103 (L : Lp) (R : Option Res → Prop) (n : Nat) (st : St) : Prop := L (lp103 n) st (ct103 L R n)
theorem hg103 : HG Tryd.prog G103 := (hg_cons h140 hg_nil)
theorem okf103 : Ok Tryd.prog E103 := ok0.of Tryd.f103
theorem e103 (L : Lp) (R : Option Res → Prop) (t : ByteArray) : (bodyP E0 G103 L Tryd.f103 [.val (.string t)] [] R) = (
    br (decide ((↑t.size : Int).tmod 2 > 0)) (R (some { av := AV.tup [vS { data := #[] }, vB false], obs := [], outs := [] })) (LOOP103 L R 5 { tm := [vS t, vU, vS { data := #[] }, vB false, AV.ows 0, vI 0, vJ, vJ, vJ, vJ, vJ, vJ, vJ, vJ, vJ, vJ, vJ, vJ, vJ, vJ, vJ, vJ, vJ, vJ, vJ, vJ, vJ, vJ, vJ, vJ, vJ, vJ, vJ, vJ, vJ, vJ, vJ, vJ, vJ, vJ, vJ, vJ, vU, vU], ob := [(0, AO.row ku [])], nx := 1000000, ps := [] })) := by kernel_rfl
def st103 (t : ByteArray) (i : Int) (xs : List (Elem [.int .u8])) : St :=  ⟨[vS t, vU, vS { data := #[] }, vB false, AV.ows 0, .val (.int .i64 i), vJ, vJ, vJ, vJ, vJ, vJ, vJ, vJ, vJ, vJ, vJ, vJ, vJ, vJ, vJ, vJ, vJ, vJ, vJ, vJ, vJ, vJ, vJ, vJ, vJ, vJ, vJ, vJ, vJ, vJ, vJ, vJ, vJ, vJ, vJ, vJ, vU, vU], [(0, .row [.int .u8] xs)], 1000000, []⟩
theorem b103 (L : Lp) (R : Option Res → Prop) (N : St → Prop) (t : ByteArray) (i : Int) (xs : List (Elem [.int .u8])) : (evP E103 G103 L (lp103 5) (st103 t i xs) (rk103 L R 5 N)) = (
    br (decide (i < (↑t.size : Int))) (br (decide (0 ≤ i ∧ i < (↑t.size : Int))) (br (true && (decide (0 ≤ byteAt t i) && decide (byteAt t i ≤ 255))) (br (decide (0 ≤ IntKind.i64.wrap (i + 1) ∧ IntKind.i64.wrap (i + 1) < (↑t.size : Int))) (br (true && (decide (0 ≤ byteAt t (IntKind.i64.wrap (i + 1))) && decide (byteAt t (IntKind.i64.wrap (i + 1)) ≤ 255))) (br (decide (ixB { data := #[48, 49, 50, 51, 52, 53, 54, 55, 56, 57, 97, 98, 99, 100, 101, 102] } (byteAt t i) < 0)) (R (some { av := AV.tup [vS { data := #[] }, vB false], obs := [], outs := [] })) (br (decide (ixB { data := #[48, 49, 50, 51, 52, 53, 54, 55, 56, 57, 97, 98, 99, 100, 101, 102] } (byteAt t (IntKind.i64.wrap (i + 1))) < 0)) (R (some { av := AV.tup [vS { data := #[] }, vB false], obs := [], outs := [] })) (br (decide ((xs.length + [(IntKind.u8.wrap (IntKind.i64.wrap (IntKind.i64.wrap (ixB { data := #[48, 49, 50, 51, 52, 53, 54, 55, 56, 57, 97, 98, 99, 100, 101, 102] } (byteAt t i) * 16) + ixB { data := #[48, 49, 50, 51, 52, 53, 54, 55, 56, 57, 97, 98, 99, 100, 101, 102] } (byteAt t (IntKind.i64.wrap (i + 1))))), ())].length) * 1 ≤ 140737488355328)) (N { tm := [vS t, vU, vS { data := #[] }, vB false, AV.ows 0, vI (IntKind.i64.wrap (i + 2)), vJ, vJ, vJ, vJ, vJ, vJ, vJ, vJ, vJ, vJ, vJ, vJ, vJ, vJ, vJ, vJ, vJ, vJ, vJ, vJ, vJ, vJ, vJ, vJ, vJ, vJ, vJ, vJ, vJ, vJ, vJ, vJ, vJ, vJ, vJ, vJ, vU, vU], ob := [(0, AO.row ku (xs ++ [(IntKind.u8.wrap (IntKind.i64.wrap (IntKind.i64.wrap (ixB { data := #[48, 49, 50, 51, 52, 53, 54, 55, 56, 57, 97, 98, 99, 100, 101, 102] } (byteAt t i) * 16) + ixB { data := #[48, 49, 50, 51, 52, 53, 54, 55, 56, 57, 97, 98, 99, 100, 101, 102] } (byteAt t (IntKind.i64.wrap (i + 1))))), ())]))], nx := 1000000, ps := [] }) False))) False) False) False) False) (R (some { av := AV.tup [vS (strOf xs), vB true], obs := [], outs := [] }))) := by kernel_rfl
theorem h103 : G1Ok Tryd.prog 103 g103 := by
  intro args obs k h
  unfold g103 at h
  split at h
  · rename_i k t
    obtain ⟨hlen, h⟩ := brd h
    refine ⟨_, ctr_fn ok0 hg103 Tryd.func103 (by kernel_rfl) (by kernel_rfl) (by kernel_rfl) fun C => ?_, h⟩
    rw [e103]
    have ev : (t.size : Int).tmod 2 = ((t.size % 2 : Nat) : Int) := rfl
    refine br_dec (fun h1 => ?_) (fun h1 => ?_)
    · have hk : okH t = false := by
        unfold okH
        rw [show decide ((t.size : Int).tmod 2 = 0) = false from decide_eq_false (by omega)]
        rfl
      show _ = _
      unfold unhR
      rw [hk]
      rfl
    have h2 : (t.size : Int).tmod 2 = 0 := by omega
    have h2' : t.size % 2 = 0 := by omega
    refine loopUp okf103 hg103 (fun i xs => st103 t (2 * i) xs) (t.size / 2) (fun i xs => xs = unh t i ∧ ∀ q, q < i → badH t q = false) (fun N i xs hi ⟨hx1, hall⟩ next => ?_) [] ⟨rfl, fun q hq => by omega⟩
    show evP E103 G103 _ (lp103 5) (st103 t (2 * (i : Int)) xs) (rk103 _ _ 5 _)
    rw [b103, wrap_id (n := 2 * (i : Int) + 1) (by omega) (by omega), wrap_id (n := 2 * (i : Int) + 2) (by omega) (by omega)]
    show br _ (br _ (br _ (br _ (br _ (br (decide (hx t (2 * (i : Int)) < 0)) _ (br (decide (hx t (2 * (i : Int) + 1) < 0)) _ (br _ (N (st103 t (2 * (i : Int) + 2) (xs ++ [(IntKind.u8.wrap (IntKind.i64.wrap (IntKind.i64.wrap (hx t (2 * (i : Int)) * 16) + hx t (2 * (i : Int) + 1))), ())]))) False))) False) False) False) False) _
    have by1 := byteAt_le t (2 * (i : Int))
    have by2 := byteAt_le t (2 * (i : Int) + 1)
    have fails : i < t.size / 2 → badH t i = true → (some ⟨.tup [.val (.string ⟨#[]⟩), .val (.bool false)], [], []⟩ : Option Res) = some ⟨.tup [.val (.string (unhR t)), .val (.bool (okH t))], [], []⟩ := by
      intro q1 q2
      have hk : okH t = false := by
        unfold okH
        rw [show anyB (t.size / 2) (badH t) = true from anyB_t q1 q2]
        simp
      unfold unhR
      rw [hk]
      rfl
    refine br_dec (fun h3 => br_yes ⟨by omega, h3⟩ (br_t (by simp; omega) (br_yes ⟨by omega, by omega⟩ (br_t (by simp; omega) (br_intro (fun h4 => ?_) (fun h4 => br_intro (fun h5 => ?_) (fun h5 => br_yes ?_ ?_))))))) (fun h3 => ?_)
    · exact fails (by omega) (by unfold badH; rw [h4]; rfl)
    · exact fails (by omega) (by unfold badH; rw [h5, Bool.or_true])
    · show (xs.length + 1) * 1 ≤ _
      have : xs.length = i := by rw [hx1]; simp [unh]
      omega
    · rw [show 2 * (i : Int) + 2 = 2 * ((i : Int) + 1) from by omega, Int.mul_comm (hx t (2 * (i : Int))) 16]
      refine next (by omega) _ ⟨?_, fun q hq => ?_⟩
      · rw [hx1]
        unfold unh
        rw [List.range_succ, List.map_append]
        rfl
      · by_cases e : q < i
        · exact hall q e
        · have : q = i := by omega
          rw [this]
          unfold badH
          rw [h4, h5]
          rfl
    · have hk : okH t = true := by
        unfold okH
        rw [decide_eq_true h2, show anyB (t.size / 2) (badH t) = false from anyB_f fun q hq => hall q (by omega)]
        rfl
      have hi' : i = t.size / 2 := by omega
      show _ = _
      unfold unhR
      rw [hk, hx1, hi']
  · exact h.elim
noncomputable def E106 : Env := E0.of Tryd.f106
noncomputable def G106 : Gk := gk [(147, g140)]
noncomputable def lp106 (n : Nat) : Code := (loopOf n (codeOf Tryd.f106)).getD .skip
noncomputable def ct106 (L : Lp) (R : Option Res → Prop) (n : Nat) : Kt := contOf E106 G106 L n (codeOf Tryd.f106) (endK E106 Tryd.f106.results.toList R)
noncomputable def rk106 (L : Lp) (R : Option Res → Prop) (n : Nat) (N : St → Prop) : Kt := rk (jof E106 (lp106 n)) N (ct106 L R n)
noncomputable def rkn106 (L : Lp) (R : Option Res → Prop) (n : Nat) (N : St → Prop) (m : Nat) (N2 : St → Prop) : Kt := rk (jof E106 (lp106 m)) N2 (contOf E106 G106 L m (lp106 n) (rk106 L R n N))
noncomputable def LOOPN106 (L : Lp) (R : Option Res → Prop) (n : Nat) (N : St → Prop) (m : Nat) (st : St) : Prop := L (lp106 m) st (contOf E106 G106 L m (lp106 n) (rk106 L R n N))
noncomputable def LOOP106 (L : Lp) (R : Option Res → Prop) (n : Nat) (st : St) : Prop := L (lp106 n) st (ct106 L R n)
theorem hg106 : HG Tryd.prog G106 := (hg_cons h147 hg_nil)
theorem okf106 : Ok Tryd.prog E106 := ok0.of Tryd.f106
theorem e106 (L : Lp) (R : Option Res → Prop) (t : ByteArray) : (bodyP E0 G106 L Tryd.f106 [.val (.string t)] [] R) = (
    br ((↑t.size : Int).tmod 2 != 0) (R (some { av := AV.tup [vS { data := #[] }, vB false], obs := [], outs := [] })) (LOOP106 L R 5 { tm := [vS t, vU, vS { data := #[] }, vB false, AV.ows 0, vI 0, vJ, vJ, vJ, vJ, vJ, vJ, vJ, vJ, vJ, vJ, vJ, vJ, vJ, vJ, vJ, vJ, vJ, vJ, vJ, vJ, vJ, vJ, vJ, vJ, vJ, vJ, vJ, vJ, vJ, vJ, vJ, vJ, vJ, vJ, vJ, vU, vU], ob := [(0, AO.row ku [])], nx := 1000000, ps := [] })) := by kernel_rfl
def st106 (t : ByteArray) (i : Int) (xs : List (Elem [.int .u8])) : St :=  ⟨[vS t, vU, vS { data := #[] }, vB false, AV.ows 0, .val (.int .i64 i), vJ, vJ, vJ, vJ, vJ, vJ, vJ, vJ, vJ, vJ, vJ, vJ, vJ, vJ, vJ, vJ, vJ, vJ, vJ, vJ, vJ, vJ, vJ, vJ, vJ, vJ, vJ, vJ, vJ, vJ, vJ, vJ, vJ, vJ, vJ, vU, vU], [(0, .row [.int .u8] xs)], 1000000, []⟩
theorem b106 (L : Lp) (R : Option Res → Prop) (N : St → Prop) (t : ByteArray) (i : Int) (xs : List (Elem [.int .u8])) : (evP E106 G106 L (lp106 5) (st106 t i xs) (rk106 L R 5 N)) = (
    br (decide (i < (↑t.size : Int))) (br (decide (0 ≤ i ∧ i < (↑t.size : Int))) (br (true && (decide (0 ≤ byteAt t i) && decide (byteAt t i ≤ 255))) (br (decide (0 ≤ IntKind.i64.wrap (i + 1) ∧ IntKind.i64.wrap (i + 1) < (↑t.size : Int))) (br (true && (decide (0 ≤ byteAt t (IntKind.i64.wrap (i + 1))) && decide (byteAt t (IntKind.i64.wrap (i + 1)) ≤ 255))) (br (decide (ixB { data := #[48, 49, 50, 51, 52, 53, 54, 55, 56, 57, 97, 98, 99, 100, 101, 102] } (byteAt t i) < 0)) (R (some { av := AV.tup [vS { data := #[] }, vB false], obs := [], outs := [] })) (br (decide (ixB { data := #[48, 49, 50, 51, 52, 53, 54, 55, 56, 57, 97, 98, 99, 100, 101, 102] } (byteAt t (IntKind.i64.wrap (i + 1))) < 0)) (R (some { av := AV.tup [vS { data := #[] }, vB false], obs := [], outs := [] })) (br (decide ((xs.length + [(IntKind.u8.wrap (IntKind.i64.wrap (IntKind.i64.wrap (16 * ixB { data := #[48, 49, 50, 51, 52, 53, 54, 55, 56, 57, 97, 98, 99, 100, 101, 102] } (byteAt t i)) + ixB { data := #[48, 49, 50, 51, 52, 53, 54, 55, 56, 57, 97, 98, 99, 100, 101, 102] } (byteAt t (IntKind.i64.wrap (i + 1))))), ())].length) * 1 ≤ 140737488355328)) (N { tm := [vS t, vU, vS { data := #[] }, vB false, AV.ows 0, vI (IntKind.i64.wrap (i + 2)), vJ, vJ, vJ, vJ, vJ, vJ, vJ, vJ, vJ, vJ, vJ, vJ, vJ, vJ, vJ, vJ, vJ, vJ, vJ, vJ, vJ, vJ, vJ, vJ, vJ, vJ, vJ, vJ, vJ, vJ, vJ, vJ, vJ, vJ, vJ, vU, vU], ob := [(0, AO.row ku (xs ++ [(IntKind.u8.wrap (IntKind.i64.wrap (IntKind.i64.wrap (16 * ixB { data := #[48, 49, 50, 51, 52, 53, 54, 55, 56, 57, 97, 98, 99, 100, 101, 102] } (byteAt t i)) + ixB { data := #[48, 49, 50, 51, 52, 53, 54, 55, 56, 57, 97, 98, 99, 100, 101, 102] } (byteAt t (IntKind.i64.wrap (i + 1))))), ())]))], nx := 1000000, ps := [] }) False))) False) False) False) False) (R (some { av := AV.tup [vS (strOf xs), vB true], obs := [], outs := [] }))) := by kernel_rfl
theorem h106 : G1Ok Tryd.prog 106 g103 := by
  intro args obs k h
  unfold g103 at h
  split at h
  · rename_i k t
    obtain ⟨hlen, h⟩ := brd h
    refine ⟨_, ctr_fn ok0 hg106 Tryd.func106 (by kernel_rfl) (by kernel_rfl) (by kernel_rfl) fun C => ?_, h⟩
    rw [e106]
    have ev : (t.size : Int).tmod 2 = ((t.size % 2 : Nat) : Int) := rfl
    refine br_bne (fun h1 => ?_) (fun h1 => ?_)
    · have hk : okH t = false := by
        unfold okH
        rw [show decide ((t.size : Int).tmod 2 = 0) = false from decide_eq_false (by simpa using h1)]
        rfl
      show _ = _
      unfold unhR
      rw [hk]
      rfl
    have h2 : (t.size : Int).tmod 2 = 0 := by simpa using h1
    have h2' : t.size % 2 = 0 := by omega
    refine loopUp okf106 hg106 (fun i xs => st106 t (2 * i) xs) (t.size / 2) (fun i xs => xs = unh t i ∧ ∀ q, q < i → badH t q = false) (fun N i xs hi ⟨hx1, hall⟩ next => ?_) [] ⟨rfl, fun q hq => by omega⟩
    show evP E106 G106 _ (lp106 5) (st106 t (2 * (i : Int)) xs) (rk106 _ _ 5 _)
    rw [b106, wrap_id (n := 2 * (i : Int) + 1) (by omega) (by omega), wrap_id (n := 2 * (i : Int) + 2) (by omega) (by omega)]
    show br _ (br _ (br _ (br _ (br _ (br (decide (hx t (2 * (i : Int)) < 0)) _ (br (decide (hx t (2 * (i : Int) + 1) < 0)) _ (br _ (N (st106 t (2 * (i : Int) + 2) (xs ++ [(IntKind.u8.wrap (IntKind.i64.wrap (IntKind.i64.wrap (16 * hx t (2 * (i : Int))) + hx t (2 * (i : Int) + 1))), ())]))) False))) False) False) False) False) _
    have by1 := byteAt_le t (2 * (i : Int))
    have by2 := byteAt_le t (2 * (i : Int) + 1)
    have fails : i < t.size / 2 → badH t i = true → (some ⟨.tup [.val (.string ⟨#[]⟩), .val (.bool false)], [], []⟩ : Option Res) = some ⟨.tup [.val (.string (unhR t)), .val (.bool (okH t))], [], []⟩ := by
      intro q1 q2
      have hk : okH t = false := by
        unfold okH
        rw [show anyB (t.size / 2) (badH t) = true from anyB_t q1 q2]
        simp
      unfold unhR
      rw [hk]
      rfl
    refine br_dec (fun h3 => br_yes ⟨by omega, h3⟩ (br_t (by simp; omega) (br_yes ⟨by omega, by omega⟩ (br_t (by simp; omega) (br_intro (fun h4 => ?_) (fun h4 => br_intro (fun h5 => ?_) (fun h5 => br_yes ?_ ?_))))))) (fun h3 => ?_)
    · exact fails (by omega) (by unfold badH; rw [h4]; rfl)
    · exact fails (by omega) (by unfold badH; rw [h5, Bool.or_true])
    · show (xs.length + 1) * 1 ≤ _
      have : xs.length = i := by rw [hx1]; simp [unh]
      omega
    · rw [show 2 * (i : Int) + 2 = 2 * ((i : Int) + 1) from by omega]
      refine next (by omega) _ ⟨?_, fun q hq => ?_⟩
      · rw [hx1]
        unfold unh
        rw [List.range_succ, List.map_append]
        rfl
      · by_cases e : q < i
        · exact hall q e
        · have : q = i := by omega
          rw [this]
          unfold badH
          rw [h4, h5]
          rfl
    · have hk : okH t = true := by
        unfold okH
        rw [decide_eq_true h2, show anyB (t.size / 2) (badH t) = false from anyB_f fun q hq => hall q (by omega)]
        rfl
      have hi' : i = t.size / 2 := by omega
      show _ = _
      unfold unhR
      rw [hk, hx1, hi']
  · exact h.elim
end Go.Proofs.YtljilcingbohkabDoor.Ev
