/- The law of LogText. -/
import Derived.Test.YtljilcingbohkaaDoorD8
import Derived.Test.YtljilcingbohkaaDoorD4
namespace Go.Proofs.YtljilcingbohkaaDoor.Ev
open Go
set_option linter.unusedVariables false
set_option linter.unusedSimpArgs false
set_option maxRecDepth 100000
abbrev lgA (x q n : Int) (a b : ByteArray) (i : Int) (t : ByteArray) : AV := .agg [.val (.int .i64 x), .val (.int .i64 q), .val (.int .i64 n), .val (.string a), .val (.string b), .val (.int .i64 i), .val (.string t)]
abbrev ku : List CK := [.int .u8]
def hexD : ByteArray := ⟨#[48, 49, 50, 51, 52, 53, 54, 55, 56, 57, 97, 98, 99, 100, 101, 102]⟩
def g99 : G1
  | [.val (.int .i64 n)], [], k => br (decide (0 ≤ n ∧ n < 16)) (k ⟨.val (.int .u8 (byteAt hexD n)), [], []⟩) False
  | _, _, _ => False
def hexX (t : ByteArray) (n : Nat) : List (Elem ku) := (List.range n).flatMap fun (i : Nat) => [(byteAt hexD (byteAt t i / 16), ()), (byteAt hexD (byteAt t i % 16), ())]
def hexT (t : ByteArray) : ByteArray := strOf (hexX t t.size)
def g73 : G1
  | [.val (.string t)], [], k => br (decide (t.size ≤ 1048576)) (k ⟨.val (.string (hexT t)), [], []⟩) False
  | _, _, _ => False
theorem hexX_next (t : ByteArray) (n : Nat) : hexX t (n + 1) = hexX t n ++ [(byteAt hexD (byteAt t n / 16), ()), (byteAt hexD (byteAt t n % 16), ())] := by
  unfold hexX
  rw [List.range_succ, List.flatMap_append]
  rfl
theorem hexX_len (t : ByteArray) : ∀ n, (hexX t n).length = 2 * n
  | 0 => rfl
  | n + 1 => by
    rw [hexX_next, List.length_append, hexX_len t n]
    show 2 * n + 2 = _
    omega
theorem and15 : ∀ m : Nat, m < 256 → IntKind.u8.wrap (((BitVec.ofInt 8 (m : Int) &&& BitVec.ofInt 8 15).toNat : Nat) : Int) = ((m % 16 : Nat) : Int) := by decide +kernel
noncomputable def E99 : Env := E0.of Tryd.f99
noncomputable def G99 : Gk := gk []
noncomputable def lp99 (n : Nat) : Code := (loopOf n (codeOf Tryd.f99)).getD .skip
noncomputable def ct99 (L : Lp) (R : Option Res → Prop) (n : Nat) : Kt := contOf E99 G99 L n (codeOf Tryd.f99) (endK E99 Tryd.f99.results.toList R)
noncomputable def rk99 (L : Lp) (R : Option Res → Prop) (n : Nat) (N : St → Prop) : Kt := rk (jof E99 (lp99 n)) N (ct99 L R n)
noncomputable def LOOP99 (L : Lp) (R : Option Res → Prop) (n : Nat) (st : St) : Prop := L (lp99 n) st (ct99 L R n)
theorem hg99 : HG Tryd.prog G99 := hg_nil
theorem okf99 : Ok Tryd.prog E99 := ok0.of Tryd.f99
theorem e99 (L : Lp) (R : Option Res → Prop) (n : Int) : (bodyP E0 G99 L Tryd.f99 [.val (.int .i64 n)] [] R) = (
    br (decide (0 ≤ n ∧ n < 16)) (R (some { av := AV.val (Value.int IntKind.u8 (byteAt { data := #[48, 49, 50, 51, 52, 53, 54, 55, 56, 57, 97, 98, 99, 100, 101, 102] } n)), obs := [], outs := [] })) False) := by kernel_rfl
theorem h99 : G1Ok Tryd.prog 99 g99 := by
  intro args obs k h
  unfold g99 at h
  split at h
  · rename_i k n
    obtain ⟨hn, h⟩ := brd h
    refine ⟨_, ctr_fn ok0 hg99 Tryd.func99 (by kernel_rfl) (by kernel_rfl) (by kernel_rfl) fun C => ?_, h⟩
    rw [e99]
    exact br_yes hn rfl
  · exact h.elim
noncomputable def E73 : Env := E0.of Tryd.f73
noncomputable def G73 : Gk := gk [(99, g99)]
noncomputable def lp73 (n : Nat) : Code := (loopOf n (codeOf Tryd.f73)).getD .skip
noncomputable def ct73 (L : Lp) (R : Option Res → Prop) (n : Nat) : Kt := contOf E73 G73 L n (codeOf Tryd.f73) (endK E73 Tryd.f73.results.toList R)
noncomputable def rk73 (L : Lp) (R : Option Res → Prop) (n : Nat) (N : St → Prop) : Kt := rk (jof E73 (lp73 n)) N (ct73 L R n)
noncomputable def LOOP73 (L : Lp) (R : Option Res → Prop) (n : Nat) (st : St) : Prop := L (lp73 n) st (ct73 L R n)
theorem hg73 : HG Tryd.prog G73 := (hg_cons h99 hg_nil)
theorem okf73 : Ok Tryd.prog E73 := ok0.of Tryd.f73
theorem e73 (L : Lp) (R : Option Res → Prop) (t : ByteArray) : (bodyP E0 G73 L Tryd.f73 [.val (.string t)] [] R) = (
    LOOP73 L R 3 { tm := [vS t, vU, vS { data := #[] }, AV.ows 0, vI 0, vJ, vJ, vJ, vJ, vJ, vJ, vJ, vJ, vJ, vJ, vJ, vJ, vJ, vJ, vJ, vJ, vJ, vJ, vJ, vJ, vJ, vJ, vU, vU], ob := [(0, AO.row ku [])], nx := 1000000, ps := [] }) := by kernel_rfl
def st73 (t : ByteArray) (i : Int) (xs : List (Elem ku)) : St :=  ⟨[vS t, vU, vS { data := #[] }, AV.ows 0, .val (.int .i64 i), vJ, vJ, vJ, vJ, vJ, vJ, vJ, vJ, vJ, vJ, vJ, vJ, vJ, vJ, vJ, vJ, vJ, vJ, vJ, vJ, vJ, vJ, vU, vU], [(0, .row ku xs)], 1000000, []⟩
theorem b73 (L : Lp) (R : Option Res → Prop) (N : St → Prop) (t : ByteArray) (i : Int) (xs : List (Elem ku)) : (evP E73 G73 L (lp73 3) (st73 t i xs) (rk73 L R 3 N)) = (
    br (decide (i < (↑t.size : Int))) (br (decide (0 ≤ i ∧ i < (↑t.size : Int))) (br (decide (0 ≤ IntKind.i64.wrap ((IntKind.i64.wrap (byteAt t i)).tdiv 16) ∧ IntKind.i64.wrap ((IntKind.i64.wrap (byteAt t i)).tdiv 16) < 16)) (br (decide (0 ≤ i ∧ i < (↑t.size : Int))) (br (decide (0 ≤ (IntKind.i64.wrap (byteAt t i)).tmod 16 ∧ (IntKind.i64.wrap (byteAt t i)).tmod 16 < 16)) (br (decide ((xs.length + [(byteAt hexD (IntKind.i64.wrap ((IntKind.i64.wrap (byteAt t i)).tdiv 16)), ()), (byteAt hexD ((IntKind.i64.wrap (byteAt t i)).tmod 16), ())].length) * 1 ≤ 140737488355328)) (N { tm := [vS t, vU, vS { data := #[] }, AV.ows 0, vI (IntKind.i64.wrap (i + 1)), vJ, vJ, vJ, vJ, vJ, vJ, vJ, vJ, vJ, vJ, vJ, vJ, vJ, vJ, vJ, vJ, vJ, vJ, vJ, vJ, vJ, vJ, vU, vU], ob := [(0, AO.row ku (xs ++ [(byteAt hexD (IntKind.i64.wrap ((IntKind.i64.wrap (byteAt t i)).tdiv 16)), ()), (byteAt hexD ((IntKind.i64.wrap (byteAt t i)).tmod 16), ())]))], nx := 1000000, ps := [] }) False) False) False) False) False) (R (some { av := vS (strOf xs), obs := [], outs := [] }))) := by kernel_rfl
theorem h73 : G1Ok Tryd.prog 73 g73 := by
  intro args obs k h
  unfold g73 at h
  split at h
  · rename_i k t
    obtain ⟨hl, h⟩ := brd h
    refine ⟨_, ctr_fn ok0 hg73 Tryd.func73 (by kernel_rfl) (by kernel_rfl) (by kernel_rfl) fun C => ?_, h⟩
    rw [e73]
    refine loopUp okf73 hg73 (fun i xs => st73 t i xs) t.size (fun i xs => xs = hexX t i) (fun N i xs hi hx next => ?_) [] rfl
    show evP E73 G73 _ (lp73 3) (st73 t i xs) (rk73 _ _ 3 _)
    have hb := byteAt_lt t i
    have e1 : IntKind.i64.wrap (byteAt t i) = byteAt t i := wrap_id (by omega) (by omega)
    have e2 : (byteAt t i).tdiv 16 = byteAt t i / 16 := Int.tdiv_eq_ediv_of_nonneg hb.1
    have e3 : (byteAt t i).tmod 16 = byteAt t i % 16 := Int.tmod_eq_emod_of_nonneg hb.1
    have e4 : IntKind.i64.wrap (byteAt t i / 16) = byteAt t i / 16 := wrap_id (by omega) (by omega)
    have hlen : xs.length = 2 * i := by rw [hx, hexX_len]
    rw [b73, e1, e2, e3, e4, wrap_id (n := (i : Int) + 1) (by omega) (by omega)]
    refine br_dec (fun h2 => br_yes ⟨by omega, h2⟩ (br_yes ⟨by omega, by omega⟩ (br_yes ⟨by omega, h2⟩ (br_yes ⟨by omega, by omega⟩ (br_yes ?_ ?_))))) (fun h2 => ?_)
    · show (xs.length + 2) * 1 ≤ _
      omega
    · exact next (by omega) _ (by rw [hexX_next, hx])
    · show _ = _
      have : i = t.size := by omega
      rw [hx, this]
      rfl
  · exact h.elim
noncomputable def E75 : Env := E0.of Tryd.f75
noncomputable def G75 : Gk := gk []
noncomputable def lp75 (n : Nat) : Code := (loopOf n (codeOf Tryd.f75)).getD .skip
noncomputable def ct75 (L : Lp) (R : Option Res → Prop) (n : Nat) : Kt := contOf E75 G75 L n (codeOf Tryd.f75) (endK E75 Tryd.f75.results.toList R)
noncomputable def rk75 (L : Lp) (R : Option Res → Prop) (n : Nat) (N : St → Prop) : Kt := rk (jof E75 (lp75 n)) N (ct75 L R n)
noncomputable def LOOP75 (L : Lp) (R : Option Res → Prop) (n : Nat) (st : St) : Prop := L (lp75 n) st (ct75 L R n)
theorem hg75 : HG Tryd.prog G75 := hg_nil
theorem okf75 : Ok Tryd.prog E75 := ok0.of Tryd.f75
theorem e75 (L : Lp) (R : Option Res → Prop) (t : ByteArray) : (bodyP E0 G75 L Tryd.f75 [.val (.string t)] [] R) = (
    LOOP75 L R 3 { tm := [vS t, vU, vS { data := #[] }, AV.ows 0, vJ, vJ, vI (↑t.size : Int), vI 0, vJ, vJ, vJ, vJ, vJ, vJ, vJ, vJ, vJ, vJ, vJ, vJ, vJ, vJ, vJ, vJ, vU, vU], ob := [(0, AO.row ku [])], nx := 1000000, ps := [] }) := by kernel_rfl
def st75 (t : ByteArray) (i : Int) (xs : List (Elem ku)) : St :=  ⟨[vS t, vU, vS { data := #[] }, AV.ows 0, vJ, vJ, vI (↑t.size : Int), .val (.int .i64 i), vJ, vJ, vJ, vJ, vJ, vJ, vJ, vJ, vJ, vJ, vJ, vJ, vJ, vJ, vJ, vJ, vU, vU], [(0, .row ku xs)], 1000000, []⟩
theorem b75 (L : Lp) (R : Option Res → Prop) (N : St → Prop) (t : ByteArray) (i : Int) (xs : List (Elem ku)) : (evP E75 G75 L (lp75 3) (st75 t i xs) (rk75 L R 3 N)) = (
    br (decide (i < (↑t.size : Int))) (br (decide (0 ≤ i ∧ i < (↑t.size : Int))) (br (decide (0 ≤ (byteAt t i).fdiv 16 ∧ (byteAt t i).fdiv 16 < 16)) (br (decide (0 ≤ i ∧ i < (↑t.size : Int))) (br (decide (0 ≤ IntKind.u8.wrap (↑(BitVec.ofInt 8 (byteAt t i) &&& BitVec.ofInt 8 15).toNat : Int) ∧ IntKind.u8.wrap (↑(BitVec.ofInt 8 (byteAt t i) &&& BitVec.ofInt 8 15).toNat : Int) < 16)) (br (decide ((xs.length + [(byteAt { data := #[48, 49, 50, 51, 52, 53, 54, 55, 56, 57, 97, 98, 99, 100, 101, 102] } ((byteAt t i).fdiv 16), ()), (byteAt { data := #[48, 49, 50, 51, 52, 53, 54, 55, 56, 57, 97, 98, 99, 100, 101, 102] } (IntKind.u8.wrap (↑(BitVec.ofInt 8 (byteAt t i) &&& BitVec.ofInt 8 15).toNat : Int)), ())].length) * 1 ≤ 140737488355328)) (N { tm := [vS t, vU, vS { data := #[] }, AV.ows 0, vJ, vJ, vI (↑t.size : Int), vI (IntKind.i64.wrap (i + 1)), vJ, vJ, vJ, vJ, vJ, vJ, vJ, vJ, vJ, vJ, vJ, vJ, vJ, vJ, vJ, vJ, vU, vU], ob := [(0, AO.row ku (xs ++ [(byteAt { data := #[48, 49, 50, 51, 52, 53, 54, 55, 56, 57, 97, 98, 99, 100, 101, 102] } ((byteAt t i).fdiv 16), ()), (byteAt { data := #[48, 49, 50, 51, 52, 53, 54, 55, 56, 57, 97, 98, 99, 100, 101, 102] } (IntKind.u8.wrap (↑(BitVec.ofInt 8 (byteAt t i) &&& BitVec.ofInt 8 15).toNat : Int)), ())]))], nx := 1000000, ps := [] }) False) False) False) False) False) (R (some { av := vS (strOf xs), obs := [], outs := [] }))) := by kernel_rfl
theorem h75 : G1Ok Tryd.prog 75 g73 := by
  intro args obs k h
  unfold g73 at h
  split at h
  · rename_i k t
    obtain ⟨hl, h⟩ := brd h
    refine ⟨_, ctr_fn ok0 hg75 Tryd.func75 (by kernel_rfl) (by kernel_rfl) (by kernel_rfl) fun C => ?_, h⟩
    rw [e75]
    refine loopUp okf75 hg75 (fun i xs => st75 t i xs) t.size (fun i xs => xs = hexX t i) (fun N i xs hi hx next => ?_) [] rfl
    show evP E75 G75 _ (lp75 3) (st75 t i xs) (rk75 _ _ 3 _)
    have hb := byteAt_lt t i
    have e2 : (byteAt t i).fdiv 16 = byteAt t i / 16 := Int.fdiv_eq_ediv_of_nonneg _ (by decide)
    have e3 : IntKind.u8.wrap (((BitVec.ofInt 8 (byteAt t i) &&& BitVec.ofInt 8 15).toNat : Nat) : Int) = byteAt t i % 16 := by
      have := and15 (byteAt t i).toNat (by omega)
      rw [Int.toNat_of_nonneg hb.1] at this
      rw [this]
      omega
    have hlen : xs.length = 2 * i := by rw [hx, hexX_len]
    rw [b75, e2, e3, wrap_id (n := (i : Int) + 1) (by omega) (by omega)]
    refine br_dec (fun h2 => br_yes ⟨by omega, h2⟩ (br_yes ⟨by omega, by omega⟩ (br_yes ⟨by omega, h2⟩ (br_yes ⟨by omega, by omega⟩ (br_yes ?_ ?_))))) (fun h2 => ?_)
    · show (xs.length + 2) * 1 ≤ _
      omega
    · exact next (by omega) _ (by rw [hexX_next, hx]; rfl)
    · show _ = _
      have : i = t.size := by omega
      rw [hx, this]
      rfl
  · exact h.elim
noncomputable def E70 : Env := E0.of Tryd.f70
noncomputable def G70 : Gk := gk [(47, g47)]
noncomputable def lp70 (n : Nat) : Code := (loopOf n (codeOf Tryd.f70)).getD .skip
noncomputable def ct70 (L : Lp) (R : Option Res → Prop) (n : Nat) : Kt := contOf E70 G70 L n (codeOf Tryd.f70) (endK E70 Tryd.f70.results.toList R)
noncomputable def rk70 (L : Lp) (R : Option Res → Prop) (n : Nat) (N : St → Prop) : Kt := rk (jof E70 (lp70 n)) N (ct70 L R n)
noncomputable def LOOP70 (L : Lp) (R : Option Res → Prop) (n : Nat) (st : St) : Prop := L (lp70 n) st (ct70 L R n)
theorem hg70 : HG Tryd.prog G70 := (hg_cons h47 hg_nil)
theorem okf70 : Ok Tryd.prog E70 := ok0.of Tryd.f70
theorem e70 (L : Lp) (R : Option Res → Prop) (n : Int) : (bodyP E0 G70 L Tryd.f70 [.val (.int .i64 n)] [] R) = (
    R (some { av := vB (decide (0 ≤ n) && decide (n ≤ 7)), obs := [], outs := [] })) := by kernel_rfl
def lgOk (x q n : Int) (a b : ByteArray) (i : Int) (t : ByteArray) : Bool := decide (1 ≤ x) && (decide (x ≤ 1000000) && (decide (0 ≤ q) && (decide (q ≤ 7) && ((n == 3) && (nameOk a && (strEq b ⟨#[]⟩ && (decide (0 ≤ i) && (decide (i ≤ 7) && (decide ((t.size : Int) ≤ 24))))))))))
def hexO (t : ByteArray) : ByteArray := match strEq (hexT t) ⟨#[]⟩ with
  | true => ⟨#[45]⟩
  | false => hexT t
def logB (x q : Int) (a : ByteArray) (i : Int) (t : ByteArray) : ByteArray := dec x ++ ⟨#[46]⟩ ++ dec q ++ ⟨#[32]⟩ ++ a ++ ⟨#[32]⟩ ++ dec i ++ ⟨#[32]⟩ ++ hexO t ++ ⟨#[32]⟩ ++ (dec x ++ ⟨#[46]⟩ ++ dec q)
def logT (x q n : Int) (a b : ByteArray) (i : Int) (t : ByteArray) : ByteArray := match lgOk x q n a b i t with
  | true => sealT (logB x q a i t)
  | false => ByteArray.empty
def g40 : G1
  | [.agg [.val (.int .i64 x), .val (.int .i64 q), .val (.int .i64 n), .val (.string a), .val (.string b), .val (.int .i64 i), .val (.string t)]], [], k => br (decide (a.size ≤ 1048576)) (k ⟨.val (.string (logT x q n a b i t)), [], []⟩) False
  | _, _, _ => False
theorem strOf_size (xs : List (Elem ku)) : (strOf xs).size = xs.length := by
  show ((xs.map fun e => UInt8.ofNat (e.1 : Int).toNat).toArray).size = _
  simp
theorem hexT_size (t : ByteArray) : (hexT t).size = 2 * t.size := by
  unfold hexT
  rw [strOf_size, hexX_len]
theorem hexO_size {t : ByteArray} (h : (t.size : Int) ≤ 24) : (hexO t).size ≤ 48 := by
  unfold hexO
  split
  · show 1 ≤ 48
    omega
  · rw [hexT_size]
    omega
theorem nameOk_size {a : ByteArray} (h : nameOk a = true) : a.size ≤ 6 := by
  unfold nameOk at h
  simp only [Bool.and_eq_true, decide_eq_true_eq] at h
  omega
noncomputable def E40 : Env := E0.of Tryd.f40
noncomputable def G40 : Gk := gk [(15, g15), (13, g13), (43, g43p), (73, g73)]
noncomputable def lp40 (n : Nat) : Code := (loopOf n (codeOf Tryd.f40)).getD .skip
noncomputable def ct40 (L : Lp) (R : Option Res → Prop) (n : Nat) : Kt := contOf E40 G40 L n (codeOf Tryd.f40) (endK E40 Tryd.f40.results.toList R)
noncomputable def rk40 (L : Lp) (R : Option Res → Prop) (n : Nat) (N : St → Prop) : Kt := rk (jof E40 (lp40 n)) N (ct40 L R n)
noncomputable def LOOP40 (L : Lp) (R : Option Res → Prop) (n : Nat) (st : St) : Prop := L (lp40 n) st (ct40 L R n)
theorem hg40 : HG Tryd.prog G40 := (hg_cons h15 (hg_cons h13 (hg_cons h43p (hg_cons h73 hg_nil))))
theorem okf40 : Ok Tryd.prog E40 := ok0.of Tryd.f40
theorem e40 (L : Lp) (R : Option Res → Prop) (x q n : Int) (a b : ByteArray) (i : Int) (t : ByteArray) : (bodyP E0 G40 L Tryd.f40 [lgA x q n a b i t] [] R) = (
    br (decide (x < 1)) (R (some { av := vS { data := #[] }, obs := [], outs := [] })) (br (decide (x > 1000000)) (R (some { av := vS { data := #[] }, obs := [], outs := [] })) (br (decide (q < 0)) (R (some { av := vS { data := #[] }, obs := [], outs := [] })) (br (decide (q ≥ 8)) (R (some { av := vS { data := #[] }, obs := [], outs := [] })) (br (n != 3) (R (some { av := vS { data := #[] }, obs := [], outs := [] })) (br (decide (a.size ≤ 1048576)) (br (!nameOk a) (R (some { av := vS { data := #[] }, obs := [], outs := [] })) (br (!strEq b { data := #[] }) (R (some { av := vS { data := #[] }, obs := [], outs := [] })) (br (decide (i < 0)) (R (some { av := vS { data := #[] }, obs := [], outs := [] })) (br (decide (i ≥ 8)) (R (some { av := vS { data := #[] }, obs := [], outs := [] })) (br (decide ((↑t.size : Int) > 24)) (R (some { av := vS { data := #[] }, obs := [], outs := [] })) (br (decide (t.size ≤ 1048576)) (br (strEq (hexT t) { data := #[] }) (br (decide (0 ≤ x ∧ x ≤ 9223372036854775807)) (br (decide ((dec x).size + 1 ≤ 9223372036854775807)) (br (decide (0 ≤ q ∧ q ≤ 9223372036854775807)) (br (decide ((dec x ++ { data := #[46] }).size + (dec q).size ≤ 9223372036854775807)) (br (decide ((dec x ++ { data := #[46] } ++ dec q).size + 1 ≤ 9223372036854775807)) (br (decide ((dec x ++ { data := #[46] } ++ dec q ++ { data := #[32] }).size + a.size ≤ 9223372036854775807)) (br (decide ((dec x ++ { data := #[46] } ++ dec q ++ { data := #[32] } ++ a).size + 1 ≤ 9223372036854775807)) (br (decide (0 ≤ i ∧ i ≤ 9223372036854775807)) (br (decide ((dec x ++ { data := #[46] } ++ dec q ++ { data := #[32] } ++ a ++ { data := #[32] }).size + (dec i).size ≤ 9223372036854775807)) (br (decide ((dec x ++ { data := #[46] } ++ dec q ++ { data := #[32] } ++ a ++ { data := #[32] } ++ dec i).size + 1 ≤ 9223372036854775807)) (br (decide ((dec x ++ { data := #[46] } ++ dec q ++ { data := #[32] } ++ a ++ { data := #[32] } ++ dec i ++ { data := #[32] }).size + 1 ≤ 9223372036854775807)) (br (decide ((dec x ++ { data := #[46] } ++ dec q ++ { data := #[32] } ++ a ++ { data := #[32] } ++ dec i ++ { data := #[32] } ++ { data := #[45] }).size + 1 ≤ 9223372036854775807)) (br (decide ((dec x ++ { data := #[46] } ++ dec q ++ { data := #[32] } ++ a ++ { data := #[32] } ++ dec i ++ { data := #[32] } ++ { data := #[45] } ++ { data := #[32] }).size + (dec x ++ { data := #[46] } ++ dec q).size ≤ 9223372036854775807)) (br (decide ((dec x ++ { data := #[46] } ++ dec q ++ { data := #[32] } ++ a ++ { data := #[32] } ++ dec i ++ { data := #[32] } ++ { data := #[45] } ++ { data := #[32] } ++ (dec x ++ { data := #[46] } ++ dec q)).size ≤ 4611686018427387904)) (R (some { av := vS (sealT (dec x ++ { data := #[46] } ++ dec q ++ { data := #[32] } ++ a ++ { data := #[32] } ++ dec i ++ { data := #[32] } ++ { data := #[45] } ++ { data := #[32] } ++ (dec x ++ { data := #[46] } ++ dec q))), obs := [], outs := [] })) False) False) False) False) False) False) False) False) False) False) False) False) False) False) (br (decide (0 ≤ x ∧ x ≤ 9223372036854775807)) (br (decide ((dec x).size + 1 ≤ 9223372036854775807)) (br (decide (0 ≤ q ∧ q ≤ 9223372036854775807)) (br (decide ((dec x ++ { data := #[46] }).size + (dec q).size ≤ 9223372036854775807)) (br (decide ((dec x ++ { data := #[46] } ++ dec q).size + 1 ≤ 9223372036854775807)) (br (decide ((dec x ++ { data := #[46] } ++ dec q ++ { data := #[32] }).size + a.size ≤ 9223372036854775807)) (br (decide ((dec x ++ { data := #[46] } ++ dec q ++ { data := #[32] } ++ a).size + 1 ≤ 9223372036854775807)) (br (decide (0 ≤ i ∧ i ≤ 9223372036854775807)) (br (decide ((dec x ++ { data := #[46] } ++ dec q ++ { data := #[32] } ++ a ++ { data := #[32] }).size + (dec i).size ≤ 9223372036854775807)) (br (decide ((dec x ++ { data := #[46] } ++ dec q ++ { data := #[32] } ++ a ++ { data := #[32] } ++ dec i).size + 1 ≤ 9223372036854775807)) (br (decide ((dec x ++ { data := #[46] } ++ dec q ++ { data := #[32] } ++ a ++ { data := #[32] } ++ dec i ++ { data := #[32] }).size + (hexT t).size ≤ 9223372036854775807)) (br (decide ((dec x ++ { data := #[46] } ++ dec q ++ { data := #[32] } ++ a ++ { data := #[32] } ++ dec i ++ { data := #[32] } ++ hexT t).size + 1 ≤ 9223372036854775807)) (br (decide ((dec x ++ { data := #[46] } ++ dec q ++ { data := #[32] } ++ a ++ { data := #[32] } ++ dec i ++ { data := #[32] } ++ hexT t ++ { data := #[32] }).size + (dec x ++ { data := #[46] } ++ dec q).size ≤ 9223372036854775807)) (br (decide ((dec x ++ { data := #[46] } ++ dec q ++ { data := #[32] } ++ a ++ { data := #[32] } ++ dec i ++ { data := #[32] } ++ hexT t ++ { data := #[32] } ++ (dec x ++ { data := #[46] } ++ dec q)).size ≤ 4611686018427387904)) (R (some { av := vS (sealT (dec x ++ { data := #[46] } ++ dec q ++ { data := #[32] } ++ a ++ { data := #[32] } ++ dec i ++ { data := #[32] } ++ hexT t ++ { data := #[32] } ++ (dec x ++ { data := #[46] } ++ dec q))), obs := [], outs := [] })) False) False) False) False) False) False) False) False) False) False) False) False) False) False)) False)))))) False)))))) := by kernel_rfl
theorem h40 : G1Ok Tryd.prog 40 g40 := by
  intro args obs k h
  unfold g40 at h
  split at h
  · rename_i k x q n a b i t
    obtain ⟨ha, h⟩ := br_and h
    refine ⟨_, ctr_fn ok0 hg40 Tryd.func40 (by kernel_rfl) (by kernel_rfl) (by kernel_rfl) fun C => ?_, h⟩
    rw [e40]
    refine br_dec (fun h0 => ?_) (fun h0 => br_dec (fun h1 => ?_) (fun h1 => br_dec (fun h2 => ?_) (fun h2 => br_dec (fun h3 => ?_) (fun h3 => br_bne (fun h4 => ?_) (fun h4 => br_t ha (br_not (fun h5 => ?_) (fun h5 => br_not (fun h6 => ?_) (fun h6 => br_dec (fun h7 => ?_) (fun h7 => br_dec (fun h8 => ?_) (fun h8 => br_dec (fun h9 => ?_) (fun h9 => ?_)))))))))))
    · show _ = _
      have e : lgOk x q n a b i t = false := by
        unfold lgOk
        simp [show ¬ 1 ≤ x by omega]
      unfold logT
      rw [e]
      rfl
    · show _ = _
      have e : lgOk x q n a b i t = false := by
        unfold lgOk
        simp [show ¬ x ≤ 1000000 by omega]
      unfold logT
      rw [e]
      rfl
    · show _ = _
      have e : lgOk x q n a b i t = false := by
        unfold lgOk
        simp [show ¬ 0 ≤ q by omega]
      unfold logT
      rw [e]
      rfl
    · show _ = _
      have e : lgOk x q n a b i t = false := by
        unfold lgOk
        simp [show ¬ q ≤ 7 by omega]
      unfold logT
      rw [e]
      rfl
    · show _ = _
      have e : lgOk x q n a b i t = false := by
        unfold lgOk
        simp [h4]
      unfold logT
      rw [e]
      rfl
    · show _ = _
      have e : lgOk x q n a b i t = false := by
        unfold lgOk
        simp [h5]
      unfold logT
      rw [e]
      rfl
    · show _ = _
      have e : lgOk x q n a b i t = false := by
        unfold lgOk
        simp [h6]
      unfold logT
      rw [e]
      rfl
    · show _ = _
      have e : lgOk x q n a b i t = false := by
        unfold lgOk
        simp [show ¬ 0 ≤ i by omega]
      unfold logT
      rw [e]
      rfl
    · show _ = _
      have e : lgOk x q n a b i t = false := by
        unfold lgOk
        simp [show ¬ i ≤ 7 by omega]
      unfold logT
      rw [e]
      rfl
    · show _ = _
      have e : lgOk x q n a b i t = false := by
        unfold lgOk
        rw [decide_eq_false (show ¬ (t.size : Int) ≤ 24 by omega)]
        simp
      unfold logT
      rw [e]
      rfl
    have e : lgOk x q n a b i t = true := by
      unfold lgOk
      rw [decide_eq_true (show 1 ≤ x by omega), decide_eq_true (show x ≤ 1000000 by omega), decide_eq_true (show 0 ≤ q by omega), decide_eq_true (show q ≤ 7 by omega), h4, h5, h6, decide_eq_true (show 0 ≤ i by omega), decide_eq_true (show i ≤ 7 by omega), decide_eq_true (show (t.size : Int) ≤ 24 by omega)]
      rfl
    have d1 := dec_size (n := x) (by omega) (by omega)
    have d2 := dec_size (n := q) (by omega) (by omega)
    have d3 := dec_size (n := i) (by omega) (by omega)
    have d4 := nameOk_size h5
    have d5 := hexT_size t
    have c1 : (⟨#[46]⟩ : ByteArray).size = 1 := rfl
    have c2 : (⟨#[32]⟩ : ByteArray).size = 1 := rfl
    have c3 : (⟨#[45]⟩ : ByteArray).size = 1 := rfl
    have res : ∀ u, u = hexO t → (some ⟨.val (.string (sealT (dec x ++ ⟨#[46]⟩ ++ dec q ++ ⟨#[32]⟩ ++ a ++ ⟨#[32]⟩ ++ dec i ++ ⟨#[32]⟩ ++ u ++ ⟨#[32]⟩ ++ (dec x ++ ⟨#[46]⟩ ++ dec q)))), [], []⟩ : Option Res) = some ⟨.val (.string (logT x q n a b i t)), [], []⟩ := by
      intro u hu
      subst hu
      unfold logT logB
      rw [e]
    refine br_yes (by omega) (br_intro (fun h10 => ?_) (fun h10 => ?_))
    · refine br_yes (by omega) (br_yes ?_ (br_yes (by omega) (br_yes ?_ (br_yes ?_ (br_yes ?_ (br_yes ?_ (br_yes (by omega) (br_yes ?_ (br_yes ?_ (br_yes ?_ (br_yes ?_ (br_yes ?_ (br_yes ?_ ?_)))))))))))))
      all_goals first | omega | (simp only [ByteArray.size_append, c1, c2, c3]; omega) | exact res ⟨#[45]⟩ (by unfold hexO; rw [h10])
    · refine br_yes (by omega) (br_yes ?_ (br_yes (by omega) (br_yes ?_ (br_yes ?_ (br_yes ?_ (br_yes ?_ (br_yes (by omega) (br_yes ?_ (br_yes ?_ (br_yes ?_ (br_yes ?_ (br_yes ?_ (br_yes ?_ ?_)))))))))))))
      all_goals first | omega | (simp only [ByteArray.size_append, c1, c2, c3]; omega) | exact res (hexT t) (by unfold hexO; rw [h10])
  · exact h.elim
def g70 : G1
  | [.val (.int .i64 n)], [], k => k ⟨.val (.bool (decide (0 ≤ n) && decide (n ≤ 7))), [], []⟩
  | _, _, _ => False
theorem h70 : G1Ok Tryd.prog 70 g70 := by
  intro args obs k h
  unfold g70 at h
  split at h
  · rename_i k n
    refine ⟨_, ctr_fn ok0 hg70 Tryd.func70 (by kernel_rfl) (by kernel_rfl) (by kernel_rfl) fun C => ?_, h⟩
    rw [e70]
  · exact h.elim
noncomputable def E42 : Env := E0.of Tryd.f42
noncomputable def G42 : Gk := gk [(47, g47), (16, g15), (14, g13), (45, g45), (51, g51), (52, g52), (70, g70), (75, g73)]
noncomputable def lp42 (n : Nat) : Code := (loopOf n (codeOf Tryd.f42)).getD .skip
noncomputable def ct42 (L : Lp) (R : Option Res → Prop) (n : Nat) : Kt := contOf E42 G42 L n (codeOf Tryd.f42) (endK E42 Tryd.f42.results.toList R)
noncomputable def rk42 (L : Lp) (R : Option Res → Prop) (n : Nat) (N : St → Prop) : Kt := rk (jof E42 (lp42 n)) N (ct42 L R n)
noncomputable def LOOP42 (L : Lp) (R : Option Res → Prop) (n : Nat) (st : St) : Prop := L (lp42 n) st (ct42 L R n)
theorem hg42 : HG Tryd.prog G42 := (hg_cons h47 (hg_cons h16 (hg_cons h14 (hg_cons h45 (hg_cons h51 (hg_cons h52 (hg_cons h70 (hg_cons h75 hg_nil))))))))
theorem okf42 : Ok Tryd.prog E42 := ok0.of Tryd.f42
theorem e42 (L : Lp) (R : Option Res → Prop) (x q n : Int) (a b : ByteArray) (i : Int) (t : ByteArray) : (bodyP E0 G42 L Tryd.f42 [lgA x q n a b i t] [] R) = (
    br (!(decide (1 ≤ x) && decide (x ≤ 1000000))) (R (some { av := vS { data := #[] }, obs := [], outs := [] })) (br (!(decide (0 ≤ q) && decide (q ≤ 7))) (R (some { av := vS { data := #[] }, obs := [], outs := [] })) (br (n != 3) (R (some { av := vS { data := #[] }, obs := [], outs := [] })) (br (decide (a.size ≤ 1048576)) (br (!nameOk a) (R (some { av := vS { data := #[] }, obs := [], outs := [] })) (br (!strEq b { data := #[] }) (R (some { av := vS { data := #[] }, obs := [], outs := [] })) (br (!(decide (0 ≤ i) && decide (i ≤ 7))) (R (some { av := vS { data := #[] }, obs := [], outs := [] })) (br (decide ((↑t.size : Int) > 24)) (R (some { av := vS { data := #[] }, obs := [], outs := [] })) (br (allN [(x, ()), (q, ())] && (decide ([(x, ()), (q, ())].length ≤ 1048576) && decide ((joinT (decS [(x, ()), (q, ())]) { data := #[46] }).size ≤ 1099511627776))) (br (decide (t.size ≤ 1048576)) (br (strEq (hexT t) { data := #[] }) (br (inN i) (br (decide ([(joinT (decS [(x, ()), (q, ())]) { data := #[46] }, ()), (a, ()), (dec i, ()), ({ data := #[45] }, ()), (joinT (decS [(x, ()), (q, ())]) { data := #[46] }, ())].length ≤ 1048576) && decide ((joinT [(joinT (decS [(x, ()), (q, ())]) { data := #[46] }, ()), (a, ()), (dec i, ()), ({ data := #[45] }, ()), (joinT (decS [(x, ()), (q, ())]) { data := #[46] }, ())] { data := #[32] }).size ≤ 1099511627776)) (br (decide ((joinT [(joinT (decS [(x, ()), (q, ())]) { data := #[46] }, ()), (a, ()), (dec i, ()), ({ data := #[45] }, ()), (joinT (decS [(x, ()), (q, ())]) { data := #[46] }, ())] { data := #[32] }).size ≤ 4611686018427387904)) (R (some { av := vS (sealT (joinT [(joinT (decS [(x, ()), (q, ())]) { data := #[46] }, ()), (a, ()), (dec i, ()), ({ data := #[45] }, ()), (joinT (decS [(x, ()), (q, ())]) { data := #[46] }, ())] { data := #[32] })), obs := [], outs := [] })) False) False) False) (br (inN i) (br (decide ([(joinT (decS [(x, ()), (q, ())]) { data := #[46] }, ()), (a, ()), (dec i, ()), (hexT t, ()), (joinT (decS [(x, ()), (q, ())]) { data := #[46] }, ())].length ≤ 1048576) && decide ((joinT [(joinT (decS [(x, ()), (q, ())]) { data := #[46] }, ()), (a, ()), (dec i, ()), (hexT t, ()), (joinT (decS [(x, ()), (q, ())]) { data := #[46] }, ())] { data := #[32] }).size ≤ 1099511627776)) (br (decide ((joinT [(joinT (decS [(x, ()), (q, ())]) { data := #[46] }, ()), (a, ()), (dec i, ()), (hexT t, ()), (joinT (decS [(x, ()), (q, ())]) { data := #[46] }, ())] { data := #[32] }).size ≤ 4611686018427387904)) (R (some { av := vS (sealT (joinT [(joinT (decS [(x, ()), (q, ())]) { data := #[46] }, ()), (a, ()), (dec i, ()), (hexT t, ()), (joinT (decS [(x, ()), (q, ())]) { data := #[46] }, ())] { data := #[32] })), obs := [], outs := [] })) False) False) False)) False) False))))) False)))) := by kernel_rfl
end Go.Proofs.YtljilcingbohkaaDoor.Ev
