/- The law of LogText. -/
import Derived.Test.YtljilcingbohkabDoorD8
import Derived.Test.YtljilcingbohkabDoorD4
namespace Go.Proofs.YtljilcingbohkabDoor.Ev
open Go
set_option linter.unusedVariables false
set_option linter.unusedSimpArgs false
set_option maxRecDepth 100000
abbrev lgA (x q n : Int) (a b : ByteArray) (i : Int) (t : ByteArray) : AV := .agg [.val (.int .i64 x), .val (.int .i64 q), .val (.int .i64 n), .val (.string a), .val (.string b), .val (.int .i64 i), .val (.string t)]
abbrev ku : List CK := [.int .u8]
def hexD : ByteArray := ⟨#[48, 49, 50, 51, 52, 53, 54, 55, 56, 57, 97, 98, 99, 100, 101, 102]⟩
def g184 : G1
  | [.val (.int .i64 n)], [], k => br (decide (0 ≤ n ∧ n < 16)) (k ⟨.val (.int .u8 (byteAt hexD n)), [], []⟩) False
  | _, _, _ => False
def hexX (t : ByteArray) (n : Nat) : List (Elem ku) := (List.range n).flatMap fun (i : Nat) => [(byteAt hexD (byteAt t i / 16), ()), (byteAt hexD (byteAt t i % 16), ())]
def hexT (t : ByteArray) : ByteArray := strOf (hexX t t.size)
def g145 : G1
  | [.val (.string t)], [], k => br (decide (t.size ≤ 1048576)) (k ⟨.val (.string (hexT t)), [], []⟩) False
  | _, _, _ => False
theorem hexX_next (t : ByteArray) (n : Nat) : hexX t (n + 1) = hexX t n ++ [(byteAt hexD (byteAt t n / 16), ()), (byteAt hexD (byteAt t n % 16), ())] := by
  unfold hexX
  rw [List.range_succ, List.flatMap_append]
  rfl
theorem hexX_len (t : ByteArray) : ∀ n, (hexX t n).length = 2 * n
  | 0 => rfl
  | n + 1 => by
    rw [hexX_next, List.length_append, hexX_len t n]
    show 2 * n + 2 = _
    omega
theorem and15 : ∀ m : Nat, m < 256 → IntKind.u8.wrap (((BitVec.ofInt 8 (m : Int) &&& BitVec.ofInt 8 15).toNat : Nat) : Int) = ((m % 16 : Nat) : Int) := by decide +kernel
noncomputable def E184 : Env := E0.of Tryd.f184
noncomputable def G184 : Gk := gk []
noncomputable def lp184 (n : Nat) : Code := (loopOf n (codeOf Tryd.f184)).getD .skip
noncomputable def ct184 (L : Lp) (R : Option Res → Prop) (n : Nat) : Kt := contOf E184 G184 L n (codeOf Tryd.f184) (endK E184 Tryd.f184.results.toList R)
noncomputable def rk184 (L : Lp) (R : Option Res → Prop) (n : Nat) (N : St → Prop) : Kt := rk (jof E184 (lp184 n)) N (ct184 L R n)
noncomputable def rkn184 (L : Lp) (R : Option Res → Prop) (n : Nat) (N : St → Prop) (m : Nat) (N2 : St → Prop) : Kt := rk (jof E184 (lp184 m)) N2 (contOf E184 G184 L m (lp184 n) (rk184 L R n N))
noncomputable def LOOPN184 (L : Lp) (R : Option Res → Prop) (n : Nat) (N : St → Prop) (m : Nat) (st : St) : Prop := L (lp184 m) st (contOf E184 G184 L m (lp184 n) (rk184 L R n N))
noncomputable def LOOP184 (L : Lp) (R : Option Res → Prop) (n : Nat) (st : St) : Prop := L (lp184 n) st (ct184 L R n)
theorem hg184 : HG Tryd.prog G184 := hg_nil
theorem okf184 : Ok Tryd.prog E184 := ok0.of Tryd.f184
theorem e184 (L : Lp) (R : Option Res → Prop) (n : Int) : (bodyP E0 G184 L Tryd.f184 [.val (.int .i64 n)] [] R) = (
    br (decide (0 ≤ n ∧ n < 16)) (R (some { av := AV.val (Value.int IntKind.u8 (byteAt { data := #[48, 49, 50, 51, 52, 53, 54, 55, 56, 57, 97, 98, 99, 100, 101, 102] } n)), obs := [], outs := [] })) False) := by kernel_rfl
theorem h184 : G1Ok Tryd.prog 184 g184 := by
  intro args obs k h
  unfold g184 at h
  split at h
  · rename_i k n
    obtain ⟨hn, h⟩ := brd h
    refine ⟨_, ctr_fn ok0 hg184 Tryd.func184 (by kernel_rfl) (by kernel_rfl) (by kernel_rfl) fun C => ?_, h⟩
    rw [e184]
    exact br_yes hn rfl
  · exact h.elim
noncomputable def E145 : Env := E0.of Tryd.f145
noncomputable def G145 : Gk := gk [(184, g184)]
noncomputable def lp145 (n : Nat) : Code := (loopOf n (codeOf Tryd.f145)).getD .skip
noncomputable def ct145 (L : Lp) (R : Option Res → Prop) (n : Nat) : Kt := contOf E145 G145 L n (codeOf Tryd.f145) (endK E145 Tryd.f145.results.toList R)
noncomputable def rk145 (L : Lp) (R : Option Res → Prop) (n : Nat) (N : St → Prop) : Kt := rk (jof E145 (lp145 n)) N (ct145 L R n)
noncomputable def rkn145 (L : Lp) (R : Option Res → Prop) (n : Nat) (N : St → Prop) (m : Nat) (N2 : St → Prop) : Kt := rk (jof E145 (lp145 m)) N2 (contOf E145 G145 L m (lp145 n) (rk145 L R n N))
noncomputable def LOOPN145 (L : Lp) (R : Option Res → Prop) (n : Nat) (N : St → Prop) (m : Nat) (st : St) : Prop := L (lp145 m) st (contOf E145 G145 L m (lp145 n) (rk145 L R n N))
noncomputable def LOOP145 (L : Lp) (R : Option Res → Prop) (n : Nat) (st : St) : Prop := L (lp145 n) st (ct145 L R n)
theorem hg145 : HG Tryd.prog G145 := (hg_cons h184 hg_nil)
theorem okf145 : Ok Tryd.prog E145 := ok0.of Tryd.f145
theorem e145 (L : Lp) (R : Option Res → Prop) (t : ByteArray) : (bodyP E0 G145 L Tryd.f145 [.val (.string t)] [] R) = (
    LOOP145 L R 3 { tm := [vS t, vU, vS { data := #[] }, AV.ows 0, vI 0, vJ, vJ, vJ, vJ, vJ, vJ, vJ, vJ, vJ, vJ, vJ, vJ, vJ, vJ, vJ, vJ, vJ, vJ, vJ, vJ, vJ, vJ, vU, vU], ob := [(0, AO.row ku [])], nx := 1000000, ps := [] }) := by kernel_rfl
def st145 (t : ByteArray) (i : Int) (xs : List (Elem ku)) : St :=  ⟨[vS t, vU, vS { data := #[] }, AV.ows 0, .val (.int .i64 i), vJ, vJ, vJ, vJ, vJ, vJ, vJ, vJ, vJ, vJ, vJ, vJ, vJ, vJ, vJ, vJ, vJ, vJ, vJ, vJ, vJ, vJ, vU, vU], [(0, .row ku xs)], 1000000, []⟩
theorem b145 (L : Lp) (R : Option Res → Prop) (N : St → Prop) (t : ByteArray) (i : Int) (xs : List (Elem ku)) : (evP E145 G145 L (lp145 3) (st145 t i xs) (rk145 L R 3 N)) = (
    br (decide (i < (↑t.size : Int))) (br (decide (0 ≤ i ∧ i < (↑t.size : Int))) (br (decide (0 ≤ IntKind.i64.wrap ((IntKind.i64.wrap (byteAt t i)).tdiv 16) ∧ IntKind.i64.wrap ((IntKind.i64.wrap (byteAt t i)).tdiv 16) < 16)) (br (decide (0 ≤ i ∧ i < (↑t.size : Int))) (br (decide (0 ≤ (IntKind.i64.wrap (byteAt t i)).tmod 16 ∧ (IntKind.i64.wrap (byteAt t i)).tmod 16 < 16)) (br (decide ((xs.length + [(byteAt hexD (IntKind.i64.wrap ((IntKind.i64.wrap (byteAt t i)).tdiv 16)), ()), (byteAt hexD ((IntKind.i64.wrap (byteAt t i)).tmod 16), ())].length) * 1 ≤ 140737488355328)) (N { tm := [vS t, vU, vS { data := #[] }, AV.ows 0, vI (IntKind.i64.wrap (i + 1)), vJ, vJ, vJ, vJ, vJ, vJ, vJ, vJ, vJ, vJ, vJ, vJ, vJ, vJ, vJ, vJ, vJ, vJ, vJ, vJ, vJ, vJ, vU, vU], ob := [(0, AO.row ku (xs ++ [(byteAt hexD (IntKind.i64.wrap ((IntKind.i64.wrap (byteAt t i)).tdiv 16)), ()), (byteAt hexD ((IntKind.i64.wrap (byteAt t i)).tmod 16), ())]))], nx := 1000000, ps := [] }) False) False) False) False) False) (R (some { av := vS (strOf xs), obs := [], outs := [] }))) := by kernel_rfl
theorem h145 : G1Ok Tryd.prog 145 g145 := by
  intro args obs k h
  unfold g145 at h
  split at h
  · rename_i k t
    obtain ⟨hl, h⟩ := brd h
    refine ⟨_, ctr_fn ok0 hg145 Tryd.func145 (by kernel_rfl) (by kernel_rfl) (by kernel_rfl) fun C => ?_, h⟩
    rw [e145]
    refine loopUp okf145 hg145 (fun i xs => st145 t i xs) t.size (fun i xs => xs = hexX t i) (fun N i xs hi hx next => ?_) [] rfl
    show evP E145 G145 _ (lp145 3) (st145 t i xs) (rk145 _ _ 3 _)
    have hb := byteAt_lt t i
    have e1 : IntKind.i64.wrap (byteAt t i) = byteAt t i := wrap_id (by omega) (by omega)
    have e2 : (byteAt t i).tdiv 16 = byteAt t i / 16 := Int.tdiv_eq_ediv_of_nonneg hb.1
    have e3 : (byteAt t i).tmod 16 = byteAt t i % 16 := Int.tmod_eq_emod_of_nonneg hb.1
    have e4 : IntKind.i64.wrap (byteAt t i / 16) = byteAt t i / 16 := wrap_id (by omega) (by omega)
    have hlen : xs.length = 2 * i := by rw [hx, hexX_len]
    rw [b145, e1, e2, e3, e4, wrap_id (n := (i : Int) + 1) (by omega) (by omega)]
    refine br_dec (fun h2 => br_yes ⟨by omega, h2⟩ (br_yes ⟨by omega, by omega⟩ (br_yes ⟨by omega, h2⟩ (br_yes ⟨by omega, by omega⟩ (br_yes ?_ ?_))))) (fun h2 => ?_)
    · show (xs.length + 2) * 1 ≤ _
      omega
    · exact next (by omega) _ (by rw [hexX_next, hx])
    · show _ = _
      have : i = t.size := by omega
      rw [hx, this]
      rfl
  · exact h.elim
noncomputable def E149 : Env := E0.of Tryd.f149
noncomputable def G149 : Gk := gk []
noncomputable def lp149 (n : Nat) : Code := (loopOf n (codeOf Tryd.f149)).getD .skip
noncomputable def ct149 (L : Lp) (R : Option Res → Prop) (n : Nat) : Kt := contOf E149 G149 L n (codeOf Tryd.f149) (endK E149 Tryd.f149.results.toList R)
noncomputable def rk149 (L : Lp) (R : Option Res → Prop) (n : Nat) (N : St → Prop) : Kt := rk (jof E149 (lp149 n)) N (ct149 L R n)
noncomputable def rkn149 (L : Lp) (R : Option Res → Prop) (n : Nat) (N : St → Prop) (m : Nat) (N2 : St → Prop) : Kt := rk (jof E149 (lp149 m)) N2 (contOf E149 G149 L m (lp149 n) (rk149 L R n N))
noncomputable def LOOPN149 (L : Lp) (R : Option Res → Prop) (n : Nat) (N : St → Prop) (m : Nat) (st : St) : Prop := L (lp149 m) st (contOf E149 G149 L m (lp149 n) (rk149 L R n N))
noncomputable def LOOP149 (L : Lp) (R : Option Res → Prop) (n : Nat) (st : St) : Prop := L (lp149 n) st (ct149 L R n)
theorem hg149 : HG Tryd.prog G149 := hg_nil
theorem okf149 : Ok Tryd.prog E149 := ok0.of Tryd.f149
theorem e149 (L : Lp) (R : Option Res → Prop) (t : ByteArray) : (bodyP E0 G149 L Tryd.f149 [.val (.string t)] [] R) = (
    LOOP149 L R 3 { tm := [vS t, vU, vS { data := #[] }, AV.ows 0, vJ, vJ, vI (↑t.size : Int), vI 0, vJ, vJ, vJ, vJ, vJ, vJ, vJ, vJ, vJ, vJ, vJ, vJ, vJ, vJ, vJ, vJ, vU, vU], ob := [(0, AO.row ku [])], nx := 1000000, ps := [] }) := by kernel_rfl
def st149 (t : ByteArray) (i : Int) (xs : List (Elem ku)) : St :=  ⟨[vS t, vU, vS { data := #[] }, AV.ows 0, vJ, vJ, vI (↑t.size : Int), .val (.int .i64 i), vJ, vJ, vJ, vJ, vJ, vJ, vJ, vJ, vJ, vJ, vJ, vJ, vJ, vJ, vJ, vJ, vU, vU], [(0, .row ku xs)], 1000000, []⟩
theorem b149 (L : Lp) (R : Option Res → Prop) (N : St → Prop) (t : ByteArray) (i : Int) (xs : List (Elem ku)) : (evP E149 G149 L (lp149 3) (st149 t i xs) (rk149 L R 3 N)) = (
    br (decide (i < (↑t.size : Int))) (br (decide (0 ≤ i ∧ i < (↑t.size : Int))) (br (decide (0 ≤ (byteAt t i).fdiv 16 ∧ (byteAt t i).fdiv 16 < 16)) (br (decide (0 ≤ i ∧ i < (↑t.size : Int))) (br (decide (0 ≤ IntKind.u8.wrap (↑(BitVec.ofInt 8 (byteAt t i) &&& BitVec.ofInt 8 15).toNat : Int) ∧ IntKind.u8.wrap (↑(BitVec.ofInt 8 (byteAt t i) &&& BitVec.ofInt 8 15).toNat : Int) < 16)) (br (decide ((xs.length + [(byteAt { data := #[48, 49, 50, 51, 52, 53, 54, 55, 56, 57, 97, 98, 99, 100, 101, 102] } ((byteAt t i).fdiv 16), ()), (byteAt { data := #[48, 49, 50, 51, 52, 53, 54, 55, 56, 57, 97, 98, 99, 100, 101, 102] } (IntKind.u8.wrap (↑(BitVec.ofInt 8 (byteAt t i) &&& BitVec.ofInt 8 15).toNat : Int)), ())].length) * 1 ≤ 140737488355328)) (N { tm := [vS t, vU, vS { data := #[] }, AV.ows 0, vJ, vJ, vI (↑t.size : Int), vI (IntKind.i64.wrap (i + 1)), vJ, vJ, vJ, vJ, vJ, vJ, vJ, vJ, vJ, vJ, vJ, vJ, vJ, vJ, vJ, vJ, vU, vU], ob := [(0, AO.row ku (xs ++ [(byteAt { data := #[48, 49, 50, 51, 52, 53, 54, 55, 56, 57, 97, 98, 99, 100, 101, 102] } ((byteAt t i).fdiv 16), ()), (byteAt { data := #[48, 49, 50, 51, 52, 53, 54, 55, 56, 57, 97, 98, 99, 100, 101, 102] } (IntKind.u8.wrap (↑(BitVec.ofInt 8 (byteAt t i) &&& BitVec.ofInt 8 15).toNat : Int)), ())]))], nx := 1000000, ps := [] }) False) False) False) False) False) (R (some { av := vS (strOf xs), obs := [], outs := [] }))) := by kernel_rfl
theorem h149 : G1Ok Tryd.prog 149 g145 := by
  intro args obs k h
  unfold g145 at h
  split at h
  · rename_i k t
    obtain ⟨hl, h⟩ := brd h
    refine ⟨_, ctr_fn ok0 hg149 Tryd.func149 (by kernel_rfl) (by kernel_rfl) (by kernel_rfl) fun C => ?_, h⟩
    rw [e149]
    refine loopUp okf149 hg149 (fun i xs => st149 t i xs) t.size (fun i xs => xs = hexX t i) (fun N i xs hi hx next => ?_) [] rfl
    show evP E149 G149 _ (lp149 3) (st149 t i xs) (rk149 _ _ 3 _)
    have hb := byteAt_lt t i
    have e2 : (byteAt t i).fdiv 16 = byteAt t i / 16 := Int.fdiv_eq_ediv_of_nonneg _ (by decide)
    have e3 : IntKind.u8.wrap (((BitVec.ofInt 8 (byteAt t i) &&& BitVec.ofInt 8 15).toNat : Nat) : Int) = byteAt t i % 16 := by
      have := and15 (byteAt t i).toNat (by omega)
      rw [Int.toNat_of_nonneg hb.1] at this
      rw [this]
      omega
    have hlen : xs.length = 2 * i := by rw [hx, hexX_len]
    rw [b149, e2, e3, wrap_id (n := (i : Int) + 1) (by omega) (by omega)]
    refine br_dec (fun h2 => br_yes ⟨by omega, h2⟩ (br_yes ⟨by omega, by omega⟩ (br_yes ⟨by omega, h2⟩ (br_yes ⟨by omega, by omega⟩ (br_yes ?_ ?_))))) (fun h2 => ?_)
    · show (xs.length + 2) * 1 ≤ _
      omega
    · exact next (by omega) _ (by rw [hexX_next, hx]; rfl)
    · show _ = _
      have : i = t.size := by omega
      rw [hx, this]
      rfl
  · exact h.elim
noncomputable def E148 : Env := E0.of Tryd.f148
noncomputable def G148 : Gk := gk [(62, g62)]
noncomputable def lp148 (n : Nat) : Code := (loopOf n (codeOf Tryd.f148)).getD .skip
noncomputable def ct148 (L : Lp) (R : Option Res → Prop) (n : Nat) : Kt := contOf E148 G148 L n (codeOf Tryd.f148) (endK E148 Tryd.f148.results.toList R)
noncomputable def rk148 (L : Lp) (R : Option Res → Prop) (n : Nat) (N : St → Prop) : Kt := rk (jof E148 (lp148 n)) N (ct148 L R n)
noncomputable def rkn148 (L : Lp) (R : Option Res → Prop) (n : Nat) (N : St → Prop) (m : Nat) (N2 : St → Prop) : Kt := rk (jof E148 (lp148 m)) N2 (contOf E148 G148 L m (lp148 n) (rk148 L R n N))
noncomputable def LOOPN148 (L : Lp) (R : Option Res → Prop) (n : Nat) (N : St → Prop) (m : Nat) (st : St) : Prop := L (lp148 m) st (contOf E148 G148 L m (lp148 n) (rk148 L R n N))
noncomputable def LOOP148 (L : Lp) (R : Option Res → Prop) (n : Nat) (st : St) : Prop := L (lp148 n) st (ct148 L R n)
theorem hg148 : HG Tryd.prog G148 := (hg_cons h62 hg_nil)
theorem okf148 : Ok Tryd.prog E148 := ok0.of Tryd.f148
theorem e148 (L : Lp) (R : Option Res → Prop) (n : Int) : (bodyP E0 G148 L Tryd.f148 [.val (.int .i64 n)] [] R) = (
    R (some { av := vB (decide (0 ≤ n) && decide (n ≤ 7)), obs := [], outs := [] })) := by kernel_rfl
def lgOk (x q n : Int) (a b : ByteArray) (i : Int) (t : ByteArray) : Bool := decide (1 ≤ x) && (decide (x ≤ 1000000) && (decide (0 ≤ q) && (decide (q ≤ 7) && ((n == 3) && (nameOk a && (strEq b ⟨#[]⟩ && (decide (0 ≤ i) && (decide (i ≤ 7) && (decide ((t.size : Int) ≤ 24))))))))))
def hexO (t : ByteArray) : ByteArray := match strEq (hexT t) ⟨#[]⟩ with
  | true => ⟨#[45]⟩
  | false => hexT t
def logB (x q : Int) (a : ByteArray) (i : Int) (t : ByteArray) : ByteArray := dec x ++ ⟨#[46]⟩ ++ dec q ++ ⟨#[32]⟩ ++ a ++ ⟨#[32]⟩ ++ dec i ++ ⟨#[32]⟩ ++ hexO t ++ ⟨#[32]⟩ ++ (dec x ++ ⟨#[46]⟩ ++ dec q)
def logT (x q n : Int) (a b : ByteArray) (i : Int) (t : ByteArray) : ByteArray := match lgOk x q n a b i t with
  | true => sealT (logB x q a i t)
  | false => ByteArray.empty
def g104 : G1
  | [.agg [.val (.int .i64 x), .val (.int .i64 q), .val (.int .i64 n), .val (.string a), .val (.string b), .val (.int .i64 i), .val (.string t)]], [], k => br (decide (a.size ≤ 1048576)) (k ⟨.val (.string (logT x q n a b i t)), [], []⟩) False
  | _, _, _ => False
theorem strOf_size (xs : List (Elem ku)) : (strOf xs).size = xs.length := by
  show ((xs.map fun e => UInt8.ofNat (e.1 : Int).toNat).toArray).size = _
  simp
theorem hexT_size (t : ByteArray) : (hexT t).size = 2 * t.size := by
  unfold hexT
  rw [strOf_size, hexX_len]
theorem hexO_size {t : ByteArray} (h : (t.size : Int) ≤ 24) : (hexO t).size ≤ 48 := by
  unfold hexO
  split
  · show 1 ≤ 48
    omega
  · rw [hexT_size]
    omega
theorem nameOk_size {a : ByteArray} (h : nameOk a = true) : a.size ≤ 6 := by
  unfold nameOk at h
  simp only [Bool.and_eq_true, decide_eq_true_eq] at h
  omega
noncomputable def E104 : Env := E0.of Tryd.f104
noncomputable def G104 : Gk := gk [(111, g111), (141, g141), (81, g81p), (145, g145)]
noncomputable def lp104 (n : Nat) : Code := (loopOf n (codeOf Tryd.f104)).getD .skip
noncomputable def ct104 (L : Lp) (R : Option Res → Prop) (n : Nat) : Kt := contOf E104 G104 L n (codeOf Tryd.f104) (endK E104 Tryd.f104.results.toList R)
noncomputable def rk104 (L : Lp) (R : Option Res → Prop) (n : Nat) (N : St → Prop) : Kt := rk (jof E104 (lp104 n)) N (ct104 L R n)
noncomputable def rkn104 (L : Lp) (R : Option Res → Prop) (n : Nat) (N : St → Prop) (m : Nat) (N2 : St → Prop) : Kt := rk (jof E104 (lp104 m)) N2 (contOf E104 G104 L m (lp104 n) (rk104 L R n N))
noncomputable def LOOPN104 (L : Lp) (R : Option Res → Prop) (n : Nat) (N : St → Prop) (m : Nat) (st : St) : Prop := L (lp104 m) st (contOf E104 G104 L m (lp104 n) (rk104 L R n N))
noncomputable def LOOP104 (L : Lp) (R : Option Res → Prop) (n : Nat) (st : St) : Prop := L (lp104 n) st (ct104 L R n)
theorem hg104 : HG Tryd.prog G104 := (hg_cons h111 (hg_cons h141 (hg_cons h81p (hg_cons h145 hg_nil))))
theorem okf104 : Ok Tryd.prog E104 := ok0.of Tryd.f104
theorem e104 (L : Lp) (R : Option Res → Prop) (x q n : Int) (a b : ByteArray) (i : Int) (t : ByteArray) : (bodyP E0 G104 L Tryd.f104 [lgA x q n a b i t] [] R) = (
    br (decide (x < 1)) (R (some { av := vS { data := #[] }, obs := [], outs := [] })) (br (decide (x > 1000000)) (R (some { av := vS { data := #[] }, obs := [], outs := [] })) (br (decide (q < 0)) (R (some { av := vS { data := #[] }, obs := [], outs := [] })) (br (decide (q ≥ 8)) (R (some { av := vS { data := #[] }, obs := [], outs := [] })) (br (n != 3) (R (some { av := vS { data := #[] }, obs := [], outs := [] })) (br (decide (a.size ≤ 1048576)) (br (!nameOk a) (R (some { av := vS { data := #[] }, obs := [], outs := [] })) (br (!strEq b { data := #[] }) (R (some { av := vS { data := #[] }, obs := [], outs := [] })) (br (decide (i < 0)) (R (some { av := vS { data := #[] }, obs := [], outs := [] })) (br (decide (i ≥ 8)) (R (some { av := vS { data := #[] }, obs := [], outs := [] })) (br (decide ((↑t.size : Int) > 24)) (R (some { av := vS { data := #[] }, obs := [], outs := [] })) (br (decide (t.size ≤ 1048576)) (br (strEq (hexT t) { data := #[] }) (br (decide (0 ≤ x ∧ x ≤ 9223372036854775807)) (br (decide ((dec x).size + 1 ≤ 9223372036854775807)) (br (decide (0 ≤ q ∧ q ≤ 9223372036854775807)) (br (decide ((dec x ++ { data := #[46] }).size + (dec q).size ≤ 9223372036854775807)) (br (decide ((dec x ++ { data := #[46] } ++ dec q).size + 1 ≤ 9223372036854775807)) (br (decide ((dec x ++ { data := #[46] } ++ dec q ++ { data := #[32] }).size + a.size ≤ 9223372036854775807)) (br (decide ((dec x ++ { data := #[46] } ++ dec q ++ { data := #[32] } ++ a).size + 1 ≤ 9223372036854775807)) (br (decide (0 ≤ i ∧ i ≤ 9223372036854775807)) (br (decide ((dec x ++ { data := #[46] } ++ dec q ++ { data := #[32] } ++ a ++ { data := #[32] }).size + (dec i).size ≤ 9223372036854775807)) (br (decide ((dec x ++ { data := #[46] } ++ dec q ++ { data := #[32] } ++ a ++ { data := #[32] } ++ dec i).size + 1 ≤ 9223372036854775807)) (br (decide ((dec x ++ { data := #[46] } ++ dec q ++ { data := #[32] } ++ a ++ { data := #[32] } ++ dec i ++ { data := #[32] }).size + 1 ≤ 9223372036854775807)) (br (decide ((dec x ++ { data := #[46] } ++ dec q ++ { data := #[32] } ++ a ++ { data := #[32] } ++ dec i ++ { data := #[32] } ++ { data := #[45] }).size + 1 ≤ 9223372036854775807)) (br (decide ((dec x ++ { data := #[46] } ++ dec q ++ { data := #[32] } ++ a ++ { data := #[32] } ++ dec i ++ { data := #[32] } ++ { data := #[45] } ++ { data := #[32] }).size + (dec x ++ { data := #[46] } ++ dec q).size ≤ 9223372036854775807)) (br (decide ((dec x ++ { data := #[46] } ++ dec q ++ { data := #[32] } ++ a ++ { data := #[32] } ++ dec i ++ { data := #[32] } ++ { data := #[45] } ++ { data := #[32] } ++ (dec x ++ { data := #[46] } ++ dec q)).size ≤ 4611686018427387904)) (R (some { av := vS (sealT (dec x ++ { data := #[46] } ++ dec q ++ { data := #[32] } ++ a ++ { data := #[32] } ++ dec i ++ { data := #[32] } ++ { data := #[45] } ++ { data := #[32] } ++ (dec x ++ { data := #[46] } ++ dec q))), obs := [], outs := [] })) False) False) False) False) False) False) False) False) False) False) False) False) False) False) (br (decide (0 ≤ x ∧ x ≤ 9223372036854775807)) (br (decide ((dec x).size + 1 ≤ 9223372036854775807)) (br (decide (0 ≤ q ∧ q ≤ 9223372036854775807)) (br (decide ((dec x ++ { data := #[46] }).size + (dec q).size ≤ 9223372036854775807)) (br (decide ((dec x ++ { data := #[46] } ++ dec q).size + 1 ≤ 9223372036854775807)) (br (decide ((dec x ++ { data := #[46] } ++ dec q ++ { data := #[32] }).size + a.size ≤ 9223372036854775807)) (br (decide ((dec x ++ { data := #[46] } ++ dec q ++ { data := #[32] } ++ a).size + 1 ≤ 9223372036854775807)) (br (decide (0 ≤ i ∧ i ≤ 9223372036854775807)) (br (decide ((dec x ++ { data := #[46] } ++ dec q ++ { data := #[32] } ++ a ++ { data := #[32] }).size + (dec i).size ≤ 9223372036854775807)) (br (decide ((dec x ++ { data := #[46] } ++ dec q ++ { data := #[32] } ++ a ++ { data := #[32] } ++ dec i).size + 1 ≤ 9223372036854775807)) (br (decide ((dec x ++ { data := #[46] } ++ dec q ++ { data := #[32] } ++ a ++ { data := #[32] } ++ dec i ++ { data := #[32] }).size + (hexT t).size ≤ 9223372036854775807)) (br (decide ((dec x ++ { data := #[46] } ++ dec q ++ { data := #[32] } ++ a ++ { data := #[32] } ++ dec i ++ { data := #[32] } ++ hexT t).size + 1 ≤ 9223372036854775807)) (br (decide ((dec x ++ { data := #[46] } ++ dec q ++ { data := #[32] } ++ a ++ { data := #[32] } ++ dec i ++ { data := #[32] } ++ hexT t ++ { data := #[32] }).size + (dec x ++ { data := #[46] } ++ dec q).size ≤ 9223372036854775807)) (br (decide ((dec x ++ { data := #[46] } ++ dec q ++ { data := #[32] } ++ a ++ { data := #[32] } ++ dec i ++ { data := #[32] } ++ hexT t ++ { data := #[32] } ++ (dec x ++ { data := #[46] } ++ dec q)).size ≤ 4611686018427387904)) (R (some { av := vS (sealT (dec x ++ { data := #[46] } ++ dec q ++ { data := #[32] } ++ a ++ { data := #[32] } ++ dec i ++ { data := #[32] } ++ hexT t ++ { data := #[32] } ++ (dec x ++ { data := #[46] } ++ dec q))), obs := [], outs := [] })) False) False) False) False) False) False) False) False) False) False) False) False) False) False)) False)))))) False)))))) := by kernel_rfl
theorem h104 : G1Ok Tryd.prog 104 g104 := by
  intro args obs k h
  unfold g104 at h
  split at h
  · rename_i k x q n a b i t
    obtain ⟨ha, h⟩ := br_and h
    refine ⟨_, ctr_fn ok0 hg104 Tryd.func104 (by kernel_rfl) (by kernel_rfl) (by kernel_rfl) fun C => ?_, h⟩
    rw [e104]
    refine br_dec (fun h0 => ?_) (fun h0 => br_dec (fun h1 => ?_) (fun h1 => br_dec (fun h2 => ?_) (fun h2 => br_dec (fun h3 => ?_) (fun h3 => br_bne (fun h4 => ?_) (fun h4 => br_t ha (br_not (fun h5 => ?_) (fun h5 => br_not (fun h6 => ?_) (fun h6 => br_dec (fun h7 => ?_) (fun h7 => br_dec (fun h8 => ?_) (fun h8 => br_dec (fun h9 => ?_) (fun h9 => ?_)))))))))))
    · show _ = _
      have e : lgOk x q n a b i t = false := by
        unfold lgOk
        simp [show ¬ 1 ≤ x by omega]
      unfold logT
      rw [e]
      rfl
    · show _ = _
      have e : lgOk x q n a b i t = false := by
        unfold lgOk
        simp [show ¬ x ≤ 1000000 by omega]
      unfold logT
      rw [e]
      rfl
    · show _ = _
      have e : lgOk x q n a b i t = false := by
        unfold lgOk
        simp [show ¬ 0 ≤ q by omega]
      unfold logT
      rw [e]
      rfl
    · show _ = _
      have e : lgOk x q n a b i t = false := by
        unfold lgOk
        simp [show ¬ q ≤ 7 by omega]
      unfold logT
      rw [e]
      rfl
    · show _ = _
      have e : lgOk x q n a b i t = false := by
        unfold lgOk
        simp [h4]
      unfold logT
      rw [e]
      rfl
    · show _ = _
      have e : lgOk x q n a b i t = false := by
        unfold lgOk
        simp [h5]
      unfold logT
      rw [e]
      rfl
    · show _ = _
      have e : lgOk x q n a b i t = false := by
        unfold lgOk
        simp [h6]
      unfold logT
      rw [e]
      rfl
    · show _ = _
      have e : lgOk x q n a b i t = false := by
        unfold lgOk
        simp [show ¬ 0 ≤ i by omega]
      unfold logT
      rw [e]
      rfl
    · show _ = _
      have e : lgOk x q n a b i t = false := by
        unfold lgOk
        simp [show ¬ i ≤ 7 by omega]
      unfold logT
      rw [e]
      rfl
    · show _ = _
      have e : lgOk x q n a b i t = false := by
        unfold lgOk
        rw [decide_eq_false (show ¬ (t.size : Int) ≤ 24 by omega)]
        simp
      unfold logT
      rw [e]
      rfl
    have e : lgOk x q n a b i t = true := by
      unfold lgOk
      rw [decide_eq_true (show 1 ≤ x by omega), decide_eq_true (show x ≤ 1000000 by omega), decide_eq_true (show 0 ≤ q by omega), decide_eq_true (show q ≤ 7 by omega), h4, h5, h6, decide_eq_true (show 0 ≤ i by omega), decide_eq_true (show i ≤ 7 by omega), decide_eq_true (show (t.size : Int) ≤ 24 by omega)]
      rfl
    have d1 := dec_size (n := x) (by omega) (by omega)
    have d2 := dec_size (n := q) (by omega) (by omega)
    have d3 := dec_size (n := i) (by omega) (by omega)
    have d4 := nameOk_size h5
    have d5 := hexT_size t
    have c1 : (⟨#[46]⟩ : ByteArray).size = 1 := rfl
    have c2 : (⟨#[32]⟩ : ByteArray).size = 1 := rfl
    have c3 : (⟨#[45]⟩ : ByteArray).size = 1 := rfl
    have res : ∀ u, u = hexO t → (some ⟨.val (.string (sealT (dec x ++ ⟨#[46]⟩ ++ dec q ++ ⟨#[32]⟩ ++ a ++ ⟨#[32]⟩ ++ dec i ++ ⟨#[32]⟩ ++ u ++ ⟨#[32]⟩ ++ (dec x ++ ⟨#[46]⟩ ++ dec q)))), [], []⟩ : Option Res) = some ⟨.val (.string (logT x q n a b i t)), [], []⟩ := by
      intro u hu
      subst hu
      unfold logT logB
      rw [e]
    refine br_yes (by omega) (br_intro (fun h10 => ?_) (fun h10 => ?_))
    · refine br_yes (by omega) (br_yes ?_ (br_yes (by omega) (br_yes ?_ (br_yes ?_ (br_yes ?_ (br_yes ?_ (br_yes (by omega) (br_yes ?_ (br_yes ?_ (br_yes ?_ (br_yes ?_ (br_yes ?_ (br_yes ?_ ?_)))))))))))))
      all_goals first | omega | (simp only [ByteArray.size_append, c1, c2, c3]; omega) | exact res ⟨#[45]⟩ (by unfold hexO; rw [h10])
    · refine br_yes (by omega) (br_yes ?_ (br_yes (by omega) (br_yes ?_ (br_yes ?_ (br_yes ?_ (br_yes ?_ (br_yes (by omega) (br_yes ?_ (br_yes ?_ (br_yes ?_ (br_yes ?_ (br_yes ?_ (br_yes ?_ ?_)))))))))))))
      all_goals first | omega | (simp only [ByteArray.size_append, c1, c2, c3]; omega) | exact res (hexT t) (by unfold hexO; rw [h10])
  · exact h.elim
def g148 : G1
  | [.val (.int .i64 n)], [], k => k ⟨.val (.bool (decide (0 ≤ n) && decide (n ≤ 7))), [], []⟩
  | _, _, _ => False
theorem h148 : G1Ok Tryd.prog 148 g148 := by
  intro args obs k h
  unfold g148 at h
  split at h
  · rename_i k n
    refine ⟨_, ctr_fn ok0 hg148 Tryd.func148 (by kernel_rfl) (by kernel_rfl) (by kernel_rfl) fun C => ?_, h⟩
    rw [e148]
  · exact h.elim
noncomputable def E107 : Env := E0.of Tryd.f107
noncomputable def G107 : Gk := gk [(62, g62), (122, g111), (142, g141), (83, g83), (132, g132), (150, g150), (148, g148), (149, g145)]
noncomputable def lp107 (n : Nat) : Code := (loopOf n (codeOf Tryd.f107)).getD .skip
noncomputable def ct107 (L : Lp) (R : Option Res → Prop) (n : Nat) : Kt := contOf E107 G107 L n (codeOf Tryd.f107) (endK E107 Tryd.f107.results.toList R)
noncomputable def rk107 (L : Lp) (R : Option Res → Prop) (n : Nat) (N : St → Prop) : Kt := rk (jof E107 (lp107 n)) N (ct107 L R n)
noncomputable def rkn107 (L : Lp) (R : Option Res → Prop) (n : Nat) (N : St → Prop) (m : Nat) (N2 : St → Prop) : Kt := rk (jof E107 (lp107 m)) N2 (contOf E107 G107 L m (lp107 n) (rk107 L R n N))
noncomputable def LOOPN107 (L : Lp) (R : Option Res → Prop) (n : Nat) (N : St → Prop) (m : Nat) (st : St) : Prop := L (lp107 m) st (contOf E107 G107 L m (lp107 n) (rk107 L R n N))
noncomputable def LOOP107 (L : Lp) (R : Option Res → Prop) (n : Nat) (st : St) : Prop := L (lp107 n) st (ct107 L R n)
theorem hg107 : HG Tryd.prog G107 := (hg_cons h62 (hg_cons h122 (hg_cons h142 (hg_cons h83 (hg_cons h132 (hg_cons h150 (hg_cons h148 (hg_cons h149 hg_nil))))))))
theorem okf107 : Ok Tryd.prog E107 := ok0.of Tryd.f107
theorem e107 (L : Lp) (R : Option Res → Prop) (x q n : Int) (a b : ByteArray) (i : Int) (t : ByteArray) : (bodyP E0 G107 L Tryd.f107 [lgA x q n a b i t] [] R) = (
    br (!(decide (1 ≤ x) && decide (x ≤ 1000000))) (R (some { av := vS { data := #[] }, obs := [], outs := [] })) (br (!(decide (0 ≤ q) && decide (q ≤ 7))) (R (some { av := vS { data := #[] }, obs := [], outs := [] })) (br (n != 3) (R (some { av := vS { data := #[] }, obs := [], outs := [] })) (br (decide (a.size ≤ 1048576)) (br (!nameOk a) (R (some { av := vS { data := #[] }, obs := [], outs := [] })) (br (!strEq b { data := #[] }) (R (some { av := vS { data := #[] }, obs := [], outs := [] })) (br (!(decide (0 ≤ i) && decide (i ≤ 7))) (R (some { av := vS { data := #[] }, obs := [], outs := [] })) (br (decide ((↑t.size : Int) > 24)) (R (some { av := vS { data := #[] }, obs := [], outs := [] })) (br (allN [(x, ()), (q, ())] && (decide ([(x, ()), (q, ())].length ≤ 1048576) && decide ((joinT (decS [(x, ()), (q, ())]) { data := #[46] }).size ≤ 1099511627776))) (br (decide (t.size ≤ 1048576)) (br (strEq (hexT t) { data := #[] }) (br (inN i) (br (decide ([(joinT (decS [(x, ()), (q, ())]) { data := #[46] }, ()), (a, ()), (dec i, ()), ({ data := #[45] }, ()), (joinT (decS [(x, ()), (q, ())]) { data := #[46] }, ())].length ≤ 1048576) && decide ((joinT [(joinT (decS [(x, ()), (q, ())]) { data := #[46] }, ()), (a, ()), (dec i, ()), ({ data := #[45] }, ()), (joinT (decS [(x, ()), (q, ())]) { data := #[46] }, ())] { data := #[32] }).size ≤ 1099511627776)) (br (decide ((joinT [(joinT (decS [(x, ()), (q, ())]) { data := #[46] }, ()), (a, ()), (dec i, ()), ({ data := #[45] }, ()), (joinT (decS [(x, ()), (q, ())]) { data := #[46] }, ())] { data := #[32] }).size ≤ 4611686018427387904)) (R (some { av := vS (sealT (joinT [(joinT (decS [(x, ()), (q, ())]) { data := #[46] }, ()), (a, ()), (dec i, ()), ({ data := #[45] }, ()), (joinT (decS [(x, ()), (q, ())]) { data := #[46] }, ())] { data := #[32] })), obs := [], outs := [] })) False) False) False) (br (inN i) (br (decide ([(joinT (decS [(x, ()), (q, ())]) { data := #[46] }, ()), (a, ()), (dec i, ()), (hexT t, ()), (joinT (decS [(x, ()), (q, ())]) { data := #[46] }, ())].length ≤ 1048576) && decide ((joinT [(joinT (decS [(x, ()), (q, ())]) { data := #[46] }, ()), (a, ()), (dec i, ()), (hexT t, ()), (joinT (decS [(x, ()), (q, ())]) { data := #[46] }, ())] { data := #[32] }).size ≤ 1099511627776)) (br (decide ((joinT [(joinT (decS [(x, ()), (q, ())]) { data := #[46] }, ()), (a, ()), (dec i, ()), (hexT t, ()), (joinT (decS [(x, ()), (q, ())]) { data := #[46] }, ())] { data := #[32] }).size ≤ 4611686018427387904)) (R (some { av := vS (sealT (joinT [(joinT (decS [(x, ()), (q, ())]) { data := #[46] }, ()), (a, ()), (dec i, ()), (hexT t, ()), (joinT (decS [(x, ()), (q, ())]) { data := #[46] }, ())] { data := #[32] })), obs := [], outs := [] })) False) False) False)) False) False))))) False)))) := by kernel_rfl
end Go.Proofs.YtljilcingbohkabDoor.Ev
