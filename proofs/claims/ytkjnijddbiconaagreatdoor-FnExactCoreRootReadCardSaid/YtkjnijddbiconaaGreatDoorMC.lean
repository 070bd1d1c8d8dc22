/- Marks in memory of one's own: texts, numbers, pointers. -/
import Derived.Test.YtkjnijddbiconaaGreatDoorC3
import Derived.Test.YtkjnijddbiconaaGreatDoorEvC
namespace Go.Proofs.YtkjnijddbiconaaGreatDoor.Ev
open Go
set_option linter.unusedVariables false
set_option linter.unusedSimpArgs false
set_option maxRecDepth 100000
def E1 : Env := ⟨tt, [17, 18, 32, 33, 66, 67, 68, 89, 90, 91, 161], E0.eqs, .skip, []⟩
def Eg : Env := ⟨tt, [1000000, 17, 18, 32, 33, 66, 67, 68, 89, 90, 91, 161], E0.eqs, .skip, []⟩
theorem ok1 : Ok Tryz.prog E1 := ⟨ttOK, eqsOK, by kernel_rfl⟩
theorem okg : Ok Tryz.prog Eg := ⟨ttOK, eqsOK, by kernel_rfl⟩
def dg (n : Int) : ByteArray := strOf [(IntKind.u8.wrap (IntKind.i64.wrap (48 + n.tmod 10)), ())]
def mtN (n : Nat) (o : ByteArray) : ByteArray := if h : n = 0 then o else mtN (n / 10) (dg n ++ o)
  termination_by n
  decreasing_by omega
def mt (n : Int) : ByteArray := match decide (n ≤ 0) with
  | true => ⟨#[109, 48]⟩
  | false => ⟨#[109]⟩ ++ mtN n.toNat ByteArray.empty
def inK (n : Int) : Bool := decide (0 ≤ n ∧ n ≤ 1099511627776)
def g142 : G1
  | [.val (.int .i64 n)], [], k => br (inK n) (k ⟨.val (.string (mt n)), [], []⟩) False
  | _, _, _ => False
theorem dg_size (n : Int) : (dg n).size = 1 := rfl
noncomputable def E142 : Env := E1.of Tryz.f142
noncomputable def G142 : Gk := gk []
noncomputable def lp142 (n : Nat) : Code := (loopOf n (codeOf Tryz.f142)).getD .skip
noncomputable def ct142 (L : Lp) (R : Option Res → Prop) (n : Nat) : Kt := contOf E142 G142 L n (codeOf Tryz.f142) (endK E142 Tryz.f142.results.toList R)
noncomputable def rk142 (L : Lp) (R : Option Res → Prop) (n : Nat) (N : St → Prop) : Kt := rk (jof E142 (lp142 n)) N (ct142 L R n)
noncomputable def LOOP142 (L : Lp) (R : Option Res → Prop) (n : Nat) (st : St) : Prop := L (lp142 n) st (ct142 L R n)
theorem hg142 : HG Tryz.prog G142 := hg_nil
theorem okf142 : Ok Tryz.prog E142 := ok1.of Tryz.f142
theorem e142 (L : Lp) (R : Option Res → Prop) (n : Int) : (bodyP E1 G142 L Tryz.f142 [.val (.int .i64 n)] [] R) = (
    br (decide (n ≤ 0)) (R (some { av := vS { data := #[109, 48] }, obs := [], outs := [] })) (LOOP142 L R 4 { tm := [vI n, vU, vS { data := #[] }, vS { data := #[] }, vJ, vJ, vJ, vJ, vJ, vJ, vJ, vJ, vJ, vJ, vJ, vJ, vJ, vJ, vU, vU], ob := [], nx := 1000000, ps := [] })) := by kernel_rfl
def st142 (n m : Int) (o : ByteArray) : St :=  ⟨[.val (.int .i64 m), vU, vS { data := #[] }, .val (.string o), vJ, vJ, vJ, vJ, vJ, vJ, vJ, vJ, vJ, vJ, vJ, vJ, vJ, vJ, vU, vU], [], 1000000, []⟩
theorem b142 (L : Lp) (R : Option Res → Prop) (N : St → Prop) (n m : Int) (o : ByteArray) : (evP E142 G142 L (lp142 4) (st142 n m o) (rk142 L R 4 N)) = (
    br (decide (m > 0)) (br (decide ((strOf [(IntKind.u8.wrap (IntKind.i64.wrap (48 + m.tmod 10)), ())]).size + o.size ≤ 9223372036854775807)) (N { tm := [vI (IntKind.i64.wrap (m.tdiv 10)), vU, vS { data := #[] }, vS (strOf [(IntKind.u8.wrap (IntKind.i64.wrap (48 + m.tmod 10)), ())] ++ o), vJ, vJ, vJ, vJ, vJ, vJ, vJ, vJ, vJ, vJ, vJ, vJ, vJ, vJ, vU, vU], ob := [], nx := 1000000, ps := [] }) False) (br (decide (1 + o.size ≤ 9223372036854775807)) (R (some { av := vS ({ data := #[109] } ++ o), obs := [], outs := [] })) False)) := by kernel_rfl
theorem h142 : G1Ok Tryz.prog 142 g142 := by
  intro args obs k h
  unfold g142 at h
  split at h
  · rename_i k n
    obtain ⟨hn, h⟩ := br_and h
    simp only [inK, decide_eq_true_eq] at hn
    obtain ⟨n, rfl⟩ : ∃ m : Nat, n = m := ⟨n.toNat, by omega⟩
    refine ⟨_, ctr_fn ok1 hg142 Tryz.func142 (by kernel_rfl) (by kernel_rfl) (by kernel_rfl) fun C => ?_, h⟩
    rw [e142]
    refine br_intro (fun h1 => ?_) (fun h1 => ?_)
    · show _ = _
      unfold mt
      rw [h1]
    have hm : mt n = ⟨#[109]⟩ ++ mtN n ByteArray.empty := by
      unfold mt
      rw [h1]
      rfl
    have h1' := of_decide_eq_false h1
    refine loopR okf142 hg142 (ι := {p : Nat × ByteArray // p.2.size + p.1 ≤ n ∧ mtN p.1 p.2 = mtN n ByteArray.empty}) (fun p => st142 n p.1.1 p.1.2) (fun p => p.1.1) (fun ⟨(m, o), hs, he⟩ => ?_) ⟨(n, ByteArray.empty), by show ByteArray.empty.size + n ≤ n; have : ByteArray.empty.size = 0 := rfl; omega, rfl⟩
    show evP E142 G142 _ (lp142 4) (st142 n m o) (rk142 _ _ 4 _)
    simp only at hs he
    rw [b142]
    refine br_dec (fun h2 => ?_) (fun h2 => ?_)
    · have hd : (strOf [(IntKind.u8.wrap (IntKind.i64.wrap (48 + (m : Int).tmod 10)), ())]).size = 1 := dg_size m
      refine br_yes (by rw [hd]; omega) ?_
      have hq : (m : Int).tdiv 10 = ((m / 10 : Nat) : Int) := rfl
      rw [hq, wrap_id (by omega) (by omega)]
      refine ⟨⟨(m / 10, dg m ++ o), ?_, ?_⟩, rfl, by show m / 10 < m; omega⟩
      · show (dg m ++ o).size + m / 10 ≤ n
        rw [ByteArray.size_append, dg_size]
        omega
      · show mtN (m / 10) (dg m ++ o) = _
        rw [← he]
        conv => rhs; rw [mtN]
        rw [dif_neg (by omega)]
    · refine br_yes (by omega) ?_
      show _ = _
      have : m = 0 := by omega
      subst this
      rw [hm, ← he, mtN]
      rfl
  · exact h.elim
def mkS {α : Type} (f : Int → α) (w : Nat) (k : Int) (n : Nat) : List α := (List.range n).map fun i => f (k + ((w * i : Nat) : Int))
def mkI (k : Int) : Elem ki := (k, ())
def mk3 (k : Int) : Elem k3 := (k, k + 1, k + 2, ())
def hdR (b : Bool) (k : Int) : Int := match b with
  | true => k
  | false => -1
def hdB (cs : List CK) (f : Int → Elem cs) (w : Nat) (k : Int) (xs : List (Elem cs)) : Bool := allB xs.length fun i => elemEq cs (xs.getD i (edflt cs)) (f (k + ((w * i : Nat) : Int)))
def inM (n : Int) (l : Nat) : Bool := decide (0 ≤ n ∧ n ≤ 549755813888 ∧ (l : Int) ≤ 1073741824)
theorem mkS_getD {α : Type} (f : Int → α) (w : Nat) (k : Int) (n : Nat) (d : α) {i : Nat} (hi : i < n) : (mkS f w k n).getD i d = f (k + ((w * i : Nat) : Int)) := by
  unfold mkS
  rw [List.getD_eq_getElem?_getD, List.getElem?_map, List.getElem?_range hi]
  rfl
theorem getD_set {α : Type} (ys : List α) (a d : α) {i : Nat} (h : i < ys.length) : (ys.set i a).getD i d = a := by
  rw [List.getD_eq_getElem?_getD, List.getElem?_set_self h]
  rfl
theorem inK_of {n : Int} (h1 : 0 ≤ n) (h2 : n ≤ 1099511627776) : inK n = true := by
  unfold inK
  exact decide_eq_true ⟨h1, h2⟩
theorem inM_ge {n : Int} {l : Nat} (h : inM n l = true) : 0 ≤ n := (of_decide_eq_true h).1
theorem hdB_mk (cs : List CK) (f : Int → Elem cs) (w : Nat) (k : Int) (n : Nat) : hdB cs f w k (mkS f w k n) = true := by
  refine allB_t fun i hi => ?_
  have hi : i < n := by simpa [mkS] using hi
  rw [mkS_getD _ _ _ _ _ hi]
  exact elemEq_self _ _
theorem mkS_len {α : Type} (f : Int → α) (w : Nat) (k : Int) (n : Nat) : (mkS f w k n).length = n := by simp [mkS]
def g18 : G1
  | [.ows 0, .val (.int .i64 n)], [.row [.int .i64] xs], k => br (inM n xs.length) (k ⟨.val (.int .i64 (n + ((1 * xs.length : Nat) : Int))), [.row ki (mkS mkI 1 n xs.length)], [some 0]⟩) False
  | _, _, _ => False
noncomputable def E18 : Env := E1.of Tryz.f18
noncomputable def G18 : Gk := gk []
noncomputable def lp18 (n : Nat) : Code := (loopOf n (codeOf Tryz.f18)).getD .skip
noncomputable def ct18 (L : Lp) (R : Option Res → Prop) (n : Nat) : Kt := contOf E18 G18 L n (codeOf Tryz.f18) (endK E18 Tryz.f18.results.toList R)
noncomputable def rk18 (L : Lp) (R : Option Res → Prop) (n : Nat) (N : St → Prop) : Kt := rk (jof E18 (lp18 n)) N (ct18 L R n)
noncomputable def LOOP18 (L : Lp) (R : Option Res → Prop) (n : Nat) (st : St) : Prop := L (lp18 n) st (ct18 L R n)
theorem hg18 : HG Tryz.prog G18 := hg_nil
theorem okf18 : Ok Tryz.prog E18 := ok1.of Tryz.f18
theorem e18 (L : Lp) (R : Option Res → Prop) (xs : List (Elem ki)) (n : Int) : (bodyP E1 G18 L Tryz.f18 [.ows 0, .val (.int .i64 n)] [.row ki xs] R) = (
    LOOP18 L R 2 { tm := [AV.ows 0, vI n, vU, vU, vI 0, vI 0, vJ, vJ, vJ, vJ, vJ, vJ, vJ, vJ, vJ, vJ, vJ, vJ, vU], ob := [(0, AO.row ki xs)], nx := 1000000, ps := [some 0] }) := by kernel_rfl
def st18 (xs : List (Elem ki)) (n i : Int) : St :=  ⟨[AV.ows 0, .val (.int .i64 n), vU, vU, vI 0, .val (.int .i64 i), vJ, vJ, vJ, vJ, vJ, vJ, vJ, vJ, vJ, vJ, vJ, vJ, vU], [(0, .row ki xs)], 1000000, [some 0]⟩
theorem b18 (L : Lp) (R : Option Res → Prop) (N : St → Prop) (xs : List (Elem ki)) (n i : Int) : (evP E18 G18 L (lp18 2) (st18 xs n i) (rk18 L R 2 N)) = (
    br (decide (i < (↑xs.length : Int))) (br (decide (0 ≤ i ∧ i < (↑xs.length : Int))) (N { tm := [AV.ows 0, vI (IntKind.i64.wrap (n + 1)), vU, vU, vI 0, vI (IntKind.i64.wrap (i + 1)), vJ, vJ, vJ, vJ, vJ, vJ, vJ, vJ, vJ, vJ, vJ, vJ, vU], ob := [(0, AO.row ki (xs.set i.toNat (n, ())))], nx := 1000000, ps := [some 0] }) False) (R (some { av := vI n, obs := [AO.row ki xs], outs := [some 0] }))) := by kernel_rfl
theorem h18 : G1Ok Tryz.prog 18 g18 := by
  intro args obs k h
  unfold g18 at h
  split at h
  · rename_i k n xs
    obtain ⟨hp, h⟩ := br_and h
    simp only [inM, decide_eq_true_eq] at hp
    refine ⟨_, ctr_fn ok1 hg18 Tryz.func18 (by kernel_rfl) (by kernel_rfl) (by kernel_rfl) fun C => ?_, h⟩
    rw [e18]
    refine loopUp okf18 hg18 (fun i (p : List (Elem ki) × Int) => st18 p.1 p.2 i) xs.length (fun i p => Cp (mkS mkI 1 n xs.length) i p.1 ∧ p.2 = n + ((1 * i : Nat) : Int)) (fun N i ⟨ys, m⟩ hi ⟨hc, hm⟩ next => ?_) (xs, n) ⟨⟨by simp [mkS], by simp⟩, by simp⟩
    show evP E18 G18 _ (lp18 2) (st18 ys m i) (rk18 _ _ 2 _)
    have hl : ys.length = xs.length := by
      have := hc.len
      simpa [mkS] using this
    simp only at hm hc next
    rw [b18, wrap_id (n := (i : Int) + 1) (by omega) (by omega), Int.toNat_natCast, wrap_id (n := m + 1) (by omega) (by omega)]
    refine br_dec (fun h2 => ?_) (fun h2 => ?_)
    · have hi' : i < xs.length := by omega
      have gs : ∀ a, (ys.set i a).getD i (edflt ki) = a := fun a => getD_set ys a _ (by omega)
      have hn := hc.next (i := i) (d := edflt ki) (by simpa [mkS] using hi')
      rw [mkS_getD _ _ _ _ _ hi', ← hm] at hn
      skip
      refine br_yes ⟨by omega, by omega⟩ (?_)
      have e : m + 1 = n + ((1 * (i + 1) : Nat) : Int) := by omega
      refine next hi' (ys.set i (mkI m), m + 1) ⟨hn, e⟩
    · have hi' : i = xs.length := by omega
      show _ = _
      rw [hc.done (by simp [mkS]; omega), hm, hi']
  · exact h.elim
def g19 : G1
  | [.rsl [.int .i64] xs, .val (.int .i64 n)], [], k => br (inM n xs.length) (k ⟨.val (.int .i64 (hdR (hdB ki mkI 1 n xs) (n + ((1 * xs.length : Nat) : Int)))), [], []⟩) False
  | _, _, _ => False
noncomputable def E19 : Env := E1.of Tryz.f19
noncomputable def G19 : Gk := gk []
noncomputable def lp19 (n : Nat) : Code := (loopOf n (codeOf Tryz.f19)).getD .skip
noncomputable def ct19 (L : Lp) (R : Option Res → Prop) (n : Nat) : Kt := contOf E19 G19 L n (codeOf Tryz.f19) (endK E19 Tryz.f19.results.toList R)
noncomputable def rk19 (L : Lp) (R : Option Res → Prop) (n : Nat) (N : St → Prop) : Kt := rk (jof E19 (lp19 n)) N (ct19 L R n)
noncomputable def LOOP19 (L : Lp) (R : Option Res → Prop) (n : Nat) (st : St) : Prop := L (lp19 n) st (ct19 L R n)
theorem hg19 : HG Tryz.prog G19 := hg_nil
theorem okf19 : Ok Tryz.prog E19 := ok1.of Tryz.f19
theorem e19 (L : Lp) (R : Option Res → Prop) (xs : List (Elem ki)) (n : Int) : (bodyP E1 G19 L Tryz.f19 [.rsl ki xs, .val (.int .i64 n)] [] R) = (
    LOOP19 L R 2 { tm := [AV.rsl ki xs, vI n, vU, vU, vI 0, vI 0, vJ, vJ, vJ, vJ, vJ, vJ, vJ, vJ, vJ, vJ, vJ, vJ, vJ, vJ, vU], ob := [], nx := 1000000, ps := [] }) := by kernel_rfl
def st19 (xs : List (Elem ki)) (n i : Int) : St :=  ⟨[AV.rsl ki xs, .val (.int .i64 n), vU, vU, vI 0, .val (.int .i64 i), vJ, vJ, vJ, vJ, vJ, vJ, vJ, vJ, vJ, vJ, vJ, vJ, vJ, vJ, vU], [], 1000000, []⟩
theorem b19 (L : Lp) (R : Option Res → Prop) (N : St → Prop) (xs : List (Elem ki)) (n i : Int) : (evP E19 G19 L (lp19 2) (st19 xs n i) (rk19 L R 2 N)) = (
    br (decide (i < (↑xs.length : Int))) (br (decide (0 ≤ i ∧ i < (↑xs.length : Int))) (br ((xs.getD i.toNat (edflt ki)).fst != n) (R (some { av := vI (-1), obs := [], outs := [] })) (N { tm := [AV.rsl ki xs, vI (IntKind.i64.wrap (n + 1)), vU, vU, vI 0, vI (IntKind.i64.wrap (i + 1)), vJ, vJ, vJ, vJ, vJ, vJ, vJ, vJ, vJ, vJ, vJ, vJ, vJ, vJ, vU], ob := [], nx := 1000000, ps := [] })) False) (R (some { av := vI n, obs := [], outs := [] }))) := by kernel_rfl
theorem h19 : G1Ok Tryz.prog 19 g19 := by
  intro args obs k h
  unfold g19 at h
  split at h
  · rename_i k xs n
    obtain ⟨hp, h⟩ := br_and h
    simp only [inM, decide_eq_true_eq] at hp
    refine ⟨_, ctr_fn ok1 hg19 Tryz.func19 (by kernel_rfl) (by kernel_rfl) (by kernel_rfl) fun C => ?_, h⟩
    rw [e19]
    refine loopUp okf19 hg19 (fun i (m : Int) => st19 xs m i) xs.length (fun i m => (∀ j, j < i → elemEq ki (xs.getD j (edflt ki)) (mkI (n + ((1 * j : Nat) : Int))) = true) ∧ m = n + ((1 * i : Nat) : Int)) (fun N i m hi ⟨hall, hm⟩ next => ?_) n ⟨fun j hj => by omega, by simp⟩
    show evP E19 G19 _ (lp19 2) (st19 xs m i) (rk19 _ _ 2 _)
    rw [b19, wrap_id (n := (i : Int) + 1) (by omega) (by omega), Int.toNat_natCast, wrap_id (n := m + 1) (by omega) (by omega)]
    have he : elemEq ki (xs.getD i (edflt ki)) (mkI (n + ((1 * i : Nat) : Int))) = ((xs.getD i (edflt ki)).1==m) := by
      rw [← hm]
      unfold mkI
      rfl
    refine br_dec (fun h2 => ?_) (fun h2 => ?_)
    · have fails : elemEq ki (xs.getD i (edflt ki)) (mkI (n + ((1 * i : Nat) : Int))) = false → (-1 : Int) = hdR (hdB ki mkI 1 n xs) (n + ((1 * xs.length : Nat) : Int)) := by
        intro hf
        rw [show hdB ki mkI 1 n xs = false from allB_f (i := i) (by omega) hf]
        rfl
      refine br_yes ⟨by omega, by omega⟩ (br_bne (fun q0 => ?_) (fun q0 => ?_))
      · show _ = _
        rw [fails (by rw [he, q0] <;> rfl)]
      · refine next (by omega) _ ⟨fun j hj => ?_, by omega⟩
        by_cases e : j < i
        · exact hall j e
        · have : j = i := by omega
          rw [this, he, q0]
    · have hi' : i = xs.length := by omega
      show _ = _
      rw [show hdB ki mkI 1 n xs = true from allB_t fun j hj => hall j (by omega), hm, hi']
      rfl
  · exact h.elim
def g67 : G1
  | [.ows 0, .val (.int .i64 n)], [.row [.int .i64, .int .i64, .int .i64] xs], k => br (inM n xs.length) (k ⟨.val (.int .i64 (n + ((3 * xs.length : Nat) : Int))), [.row k3 (mkS mk3 3 n xs.length)], [some 0]⟩) False
  | _, _, _ => False
noncomputable def E67 : Env := E1.of Tryz.f67
noncomputable def G67 : Gk := gk []
noncomputable def lp67 (n : Nat) : Code := (loopOf n (codeOf Tryz.f67)).getD .skip
noncomputable def ct67 (L : Lp) (R : Option Res → Prop) (n : Nat) : Kt := contOf E67 G67 L n (codeOf Tryz.f67) (endK E67 Tryz.f67.results.toList R)
noncomputable def rk67 (L : Lp) (R : Option Res → Prop) (n : Nat) (N : St → Prop) : Kt := rk (jof E67 (lp67 n)) N (ct67 L R n)
noncomputable def LOOP67 (L : Lp) (R : Option Res → Prop) (n : Nat) (st : St) : Prop := L (lp67 n) st (ct67 L R n)
theorem hg67 : HG Tryz.prog G67 := hg_nil
theorem okf67 : Ok Tryz.prog E67 := ok1.of Tryz.f67
theorem e67 (L : Lp) (R : Option Res → Prop) (xs : List (Elem k3)) (n : Int) : (bodyP E1 G67 L Tryz.f67 [.ows 0, .val (.int .i64 n)] [.row k3 xs] R) = (
    LOOP67 L R 2 { tm := [AV.ows 0, vI n, vU, vU, vI 0, vI 0, vJ, vJ, vJ, vJ, vJ, vJ, vJ, vJ, vJ, vJ, vJ, vJ, vJ, vJ, vJ, vJ, vJ, vJ, vJ, vJ, vJ, vJ, vJ, vJ, vJ, vJ, vJ, vU], ob := [(0, AO.row k3 xs)], nx := 1000000, ps := [some 0] }) := by kernel_rfl
def st67 (xs : List (Elem k3)) (n i : Int) : St :=  ⟨[AV.ows 0, .val (.int .i64 n), vU, vU, vI 0, .val (.int .i64 i), vJ, vJ, vJ, vJ, vJ, vJ, vJ, vJ, vJ, vJ, vJ, vJ, vJ, vJ, vJ, vJ, vJ, vJ, vJ, vJ, vJ, vJ, vJ, vJ, vJ, vJ, vJ, vU], [(0, .row k3 xs)], 1000000, [some 0]⟩
theorem b67 (L : Lp) (R : Option Res → Prop) (N : St → Prop) (xs : List (Elem k3)) (n i : Int) : (evP E67 G67 L (lp67 2) (st67 xs n i) (rk67 L R 2 N)) = (
    br (decide (i < (↑xs.length : Int))) (br (decide (0 ≤ i ∧ i < (↑xs.length : Int))) (br (decide (0 ≤ i ∧ i < (↑(xs.set i.toNat (n, (xs.getD i.toNat (edflt k3)).snd)).length : Int))) (br (decide (0 ≤ i ∧ i < (↑((xs.set i.toNat (n, (xs.getD i.toNat (edflt k3)).snd)).set i.toNat (((xs.set i.toNat (n, (xs.getD i.toNat (edflt k3)).snd)).getD i.toNat (edflt k3)).fst, IntKind.i64.wrap (n + 1), ((xs.set i.toNat (n, (xs.getD i.toNat (edflt k3)).snd)).getD i.toNat (edflt k3)).snd.snd)).length : Int))) (N { tm := [AV.ows 0, vI (IntKind.i64.wrap (IntKind.i64.wrap (IntKind.i64.wrap (n + 1) + 1) + 1)), vU, vU, vI 0, vI (IntKind.i64.wrap (i + 1)), vJ, vJ, vJ, vJ, vJ, vJ, vJ, vJ, vJ, vJ, vJ, vJ, vJ, vJ, vJ, vJ, vJ, vJ, vJ, vJ, vJ, vJ, vJ, vJ, vJ, vJ, vJ, vU], ob := [(0, AO.row k3 (((xs.set i.toNat (n, (xs.getD i.toNat (edflt k3)).snd)).set i.toNat (((xs.set i.toNat (n, (xs.getD i.toNat (edflt k3)).snd)).getD i.toNat (edflt k3)).fst, IntKind.i64.wrap (n + 1), ((xs.set i.toNat (n, (xs.getD i.toNat (edflt k3)).snd)).getD i.toNat (edflt k3)).snd.snd)).set i.toNat ((((xs.set i.toNat (n, (xs.getD i.toNat (edflt k3)).snd)).set i.toNat (((xs.set i.toNat (n, (xs.getD i.toNat (edflt k3)).snd)).getD i.toNat (edflt k3)).fst, IntKind.i64.wrap (n + 1), ((xs.set i.toNat (n, (xs.getD i.toNat (edflt k3)).snd)).getD i.toNat (edflt k3)).snd.snd)).getD i.toNat (edflt k3)).fst, (((xs.set i.toNat (n, (xs.getD i.toNat (edflt k3)).snd)).set i.toNat (((xs.set i.toNat (n, (xs.getD i.toNat (edflt k3)).snd)).getD i.toNat (edflt k3)).fst, IntKind.i64.wrap (n + 1), ((xs.set i.toNat (n, (xs.getD i.toNat (edflt k3)).snd)).getD i.toNat (edflt k3)).snd.snd)).getD i.toNat (edflt k3)).snd.fst, IntKind.i64.wrap (IntKind.i64.wrap (n + 1) + 1), ())))], nx := 1000000, ps := [some 0] }) False) False) False) (R (some { av := vI n, obs := [AO.row k3 xs], outs := [some 0] }))) := by kernel_rfl
theorem h67 : G1Ok Tryz.prog 67 g67 := by
  intro args obs k h
  unfold g67 at h
  split at h
  · rename_i k n xs
    obtain ⟨hp, h⟩ := br_and h
    simp only [inM, decide_eq_true_eq] at hp
    refine ⟨_, ctr_fn ok1 hg67 Tryz.func67 (by kernel_rfl) (by kernel_rfl) (by kernel_rfl) fun C => ?_, h⟩
    rw [e67]
    refine loopUp okf67 hg67 (fun i (p : List (Elem k3) × Int) => st67 p.1 p.2 i) xs.length (fun i p => Cp (mkS mk3 3 n xs.length) i p.1 ∧ p.2 = n + ((3 * i : Nat) : Int)) (fun N i ⟨ys, m⟩ hi ⟨hc, hm⟩ next => ?_) (xs, n) ⟨⟨by simp [mkS], by simp⟩, by simp⟩
    show evP E67 G67 _ (lp67 2) (st67 ys m i) (rk67 _ _ 2 _)
    have hl : ys.length = xs.length := by
      have := hc.len
      simpa [mkS] using this
    simp only at hm hc next
    rw [b67, wrap_id (n := (i : Int) + 1) (by omega) (by omega), Int.toNat_natCast, wrap_id (n := m + 1) (by omega) (by omega), wrap_id (n := m + 1 + 1) (by omega) (by omega), wrap_id (n := m + 1 + 1 + 1) (by omega) (by omega)]
    refine br_dec (fun h2 => ?_) (fun h2 => ?_)
    · have hi' : i < xs.length := by omega
      have gs : ∀ a, (ys.set i a).getD i (edflt k3) = a := fun a => getD_set ys a _ (by omega)
      have hn := hc.next (i := i) (d := edflt k3) (by simpa [mkS] using hi')
      rw [mkS_getD _ _ _ _ _ hi', ← hm] at hn
      simp only [List.set_set, List.length_set, gs]
      refine br_yes ⟨by omega, by omega⟩ (br_yes ⟨by omega, by omega⟩ (br_yes ⟨by omega, by omega⟩ (?_)))
      have e : m + 1 + 1 + 1 = n + ((3 * (i + 1) : Nat) : Int) := by omega
      have e2 : mk3 m = (m, m+1, m+1+1, ()) := by
        unfold mk3
        rw [show m + 2 = m + 1 + 1 from by omega]
      rw [e2] at hn
      exact next hi' (ys.set i (m, m+1, m+1+1, ()), m + 1 + 1 + 1) ⟨hn, e⟩
    · have hi' : i = xs.length := by omega
      show _ = _
      rw [hc.done (by simp [mkS]; omega), hm, hi']
  · exact h.elim
def g68 : G1
  | [.ows 0, .val (.int .i64 n)], [.row [.int .i64, .int .i64, .int .i64] xs], k => br (inM n xs.length) (k ⟨.val (.int .i64 (n + ((3 * xs.length : Nat) : Int))), [.row k3 (mkS mk3 3 n xs.length)], [some 0]⟩) False
  | _, _, _ => False
noncomputable def E68 : Env := E1.of Tryz.f68
noncomputable def G68 : Gk := gk []
noncomputable def lp68 (n : Nat) : Code := (loopOf n (codeOf Tryz.f68)).getD .skip
noncomputable def ct68 (L : Lp) (R : Option Res → Prop) (n : Nat) : Kt := contOf E68 G68 L n (codeOf Tryz.f68) (endK E68 Tryz.f68.results.toList R)
noncomputable def rk68 (L : Lp) (R : Option Res → Prop) (n : Nat) (N : St → Prop) : Kt := rk (jof E68 (lp68 n)) N (ct68 L R n)
noncomputable def LOOP68 (L : Lp) (R : Option Res → Prop) (n : Nat) (st : St) : Prop := L (lp68 n) st (ct68 L R n)
theorem hg68 : HG Tryz.prog G68 := hg_nil
theorem okf68 : Ok Tryz.prog E68 := ok1.of Tryz.f68
theorem e68 (L : Lp) (R : Option Res → Prop) (xs : List (Elem k3)) (n : Int) : (bodyP E1 G68 L Tryz.f68 [.ows 0, .val (.int .i64 n)] [.row k3 xs] R) = (
    LOOP68 L R 2 { tm := [AV.ows 0, vI n, vU, vU, vI 0, vI 0, vJ, vJ, vJ, vJ, vJ, vJ, vJ, vJ, vJ, vJ, vJ, vJ, vJ, vJ, vJ, vJ, vJ, vJ, vJ, vJ, vJ, vJ, vJ, vJ, vJ, vJ, vJ, vU], ob := [(0, AO.row k3 xs)], nx := 1000000, ps := [some 0] }) := by kernel_rfl
def st68 (xs : List (Elem k3)) (n i : Int) : St :=  ⟨[AV.ows 0, .val (.int .i64 n), vU, vU, vI 0, .val (.int .i64 i), vJ, vJ, vJ, vJ, vJ, vJ, vJ, vJ, vJ, vJ, vJ, vJ, vJ, vJ, vJ, vJ, vJ, vJ, vJ, vJ, vJ, vJ, vJ, vJ, vJ, vJ, vJ, vU], [(0, .row k3 xs)], 1000000, [some 0]⟩
theorem b68 (L : Lp) (R : Option Res → Prop) (N : St → Prop) (xs : List (Elem k3)) (n i : Int) : (evP E68 G68 L (lp68 2) (st68 xs n i) (rk68 L R 2 N)) = (
    br (decide (i < (↑xs.length : Int))) (br (decide (0 ≤ i ∧ i < (↑xs.length : Int))) (br (decide (0 ≤ i ∧ i < (↑(xs.set i.toNat (n, (xs.getD i.toNat (edflt k3)).snd)).length : Int))) (br (decide (0 ≤ i ∧ i < (↑((xs.set i.toNat (n, (xs.getD i.toNat (edflt k3)).snd)).set i.toNat (((xs.set i.toNat (n, (xs.getD i.toNat (edflt k3)).snd)).getD i.toNat (edflt k3)).fst, IntKind.i64.wrap (n + 1), ((xs.set i.toNat (n, (xs.getD i.toNat (edflt k3)).snd)).getD i.toNat (edflt k3)).snd.snd)).length : Int))) (N { tm := [AV.ows 0, vI (IntKind.i64.wrap (IntKind.i64.wrap (IntKind.i64.wrap (n + 1) + 1) + 1)), vU, vU, vI 0, vI (IntKind.i64.wrap (i + 1)), vJ, vJ, vJ, vJ, vJ, vJ, vJ, vJ, vJ, vJ, vJ, vJ, vJ, vJ, vJ, vJ, vJ, vJ, vJ, vJ, vJ, vJ, vJ, vJ, vJ, vJ, vJ, vU], ob := [(0, AO.row k3 (((xs.set i.toNat (n, (xs.getD i.toNat (edflt k3)).snd)).set i.toNat (((xs.set i.toNat (n, (xs.getD i.toNat (edflt k3)).snd)).getD i.toNat (edflt k3)).fst, IntKind.i64.wrap (n + 1), ((xs.set i.toNat (n, (xs.getD i.toNat (edflt k3)).snd)).getD i.toNat (edflt k3)).snd.snd)).set i.toNat ((((xs.set i.toNat (n, (xs.getD i.toNat (edflt k3)).snd)).set i.toNat (((xs.set i.toNat (n, (xs.getD i.toNat (edflt k3)).snd)).getD i.toNat (edflt k3)).fst, IntKind.i64.wrap (n + 1), ((xs.set i.toNat (n, (xs.getD i.toNat (edflt k3)).snd)).getD i.toNat (edflt k3)).snd.snd)).getD i.toNat (edflt k3)).fst, (((xs.set i.toNat (n, (xs.getD i.toNat (edflt k3)).snd)).set i.toNat (((xs.set i.toNat (n, (xs.getD i.toNat (edflt k3)).snd)).getD i.toNat (edflt k3)).fst, IntKind.i64.wrap (n + 1), ((xs.set i.toNat (n, (xs.getD i.toNat (edflt k3)).snd)).getD i.toNat (edflt k3)).snd.snd)).getD i.toNat (edflt k3)).snd.fst, IntKind.i64.wrap (IntKind.i64.wrap (n + 1) + 1), ())))], nx := 1000000, ps := [some 0] }) False) False) False) (R (some { av := vI n, obs := [AO.row k3 xs], outs := [some 0] }))) := by kernel_rfl
theorem h68 : G1Ok Tryz.prog 68 g68 := by
  intro args obs k h
  unfold g68 at h
  split at h
  · rename_i k n xs
    obtain ⟨hp, h⟩ := br_and h
    simp only [inM, decide_eq_true_eq] at hp
    refine ⟨_, ctr_fn ok1 hg68 Tryz.func68 (by kernel_rfl) (by kernel_rfl) (by kernel_rfl) fun C => ?_, h⟩
    rw [e68]
    refine loopUp okf68 hg68 (fun i (p : List (Elem k3) × Int) => st68 p.1 p.2 i) xs.length (fun i p => Cp (mkS mk3 3 n xs.length) i p.1 ∧ p.2 = n + ((3 * i : Nat) : Int)) (fun N i ⟨ys, m⟩ hi ⟨hc, hm⟩ next => ?_) (xs, n) ⟨⟨by simp [mkS], by simp⟩, by simp⟩
    show evP E68 G68 _ (lp68 2) (st68 ys m i) (rk68 _ _ 2 _)
    have hl : ys.length = xs.length := by
      have := hc.len
      simpa [mkS] using this
    simp only at hm hc next
    rw [b68, wrap_id (n := (i : Int) + 1) (by omega) (by omega), Int.toNat_natCast, wrap_id (n := m + 1) (by omega) (by omega), wrap_id (n := m + 1 + 1) (by omega) (by omega), wrap_id (n := m + 1 + 1 + 1) (by omega) (by omega)]
    refine br_dec (fun h2 => ?_) (fun h2 => ?_)
    · have hi' : i < xs.length := by omega
      have gs : ∀ a, (ys.set i a).getD i (edflt k3) = a := fun a => getD_set ys a _ (by omega)
      have hn := hc.next (i := i) (d := edflt k3) (by simpa [mkS] using hi')
      rw [mkS_getD _ _ _ _ _ hi', ← hm] at hn
      simp only [List.set_set, List.length_set, gs]
      refine br_yes ⟨by omega, by omega⟩ (br_yes ⟨by omega, by omega⟩ (br_yes ⟨by omega, by omega⟩ (?_)))
      have e : m + 1 + 1 + 1 = n + ((3 * (i + 1) : Nat) : Int) := by omega
      have e2 : mk3 m = (m, m+1, m+1+1, ()) := by
        unfold mk3
        rw [show m + 2 = m + 1 + 1 from by omega]
      rw [e2] at hn
      exact next hi' (ys.set i (m, m+1, m+1+1, ()), m + 1 + 1 + 1) ⟨hn, e⟩
    · have hi' : i = xs.length := by omega
      show _ = _
      rw [hc.done (by simp [mkS]; omega), hm, hi']
  · exact h.elim
def g66 : G1
  | [.ows 0, .val (.int .i64 n)], [.row cx xs0], k => match castE kc cx xs0 with
    | some xs => br (inM n xs.length) (k ⟨.val (.int .i64 (n + ((7 * xs.length : Nat) : Int))), [], [none]⟩) False
    | none => False
  | _, _, _ => False
theorem updR_len (cs : List CK) (xs : List (Elem cs)) (i j : Nat) (vs : List Value) : (updR cs xs i j vs).length = xs.length := by
  unfold updR
  rw [List.length_set]
theorem updC_len (xs : List (Elem kc)) (i j : Nat) (vs : List Value) : (updR kc xs i j vs).length = xs.length := updR_len kc xs i j vs
theorem upd_ix {ys : List (Elem kc)} {i : Int} {q j : Nat} {vs : List Value} (h : 0 ≤ i ∧ i < (ys.length : Int)) : 0 ≤ i ∧ i < ((updR kc ys q j vs).length : Int) := by
  rw [updC_len]
  exact h
noncomputable def E66 : Env := E1.of Tryz.f66
noncomputable def G66 : Gk := gk [(142, g142)]
noncomputable def lp66 (n : Nat) : Code := (loopOf n (codeOf Tryz.f66)).getD .skip
noncomputable def ct66 (L : Lp) (R : Option Res → Prop) (n : Nat) : Kt := contOf E66 G66 L n (codeOf Tryz.f66) (endK E66 Tryz.f66.results.toList R)
noncomputable def rk66 (L : Lp) (R : Option Res → Prop) (n : Nat) (N : St → Prop) : Kt := rk (jof E66 (lp66 n)) N (ct66 L R n)
noncomputable def LOOP66 (L : Lp) (R : Option Res → Prop) (n : Nat) (st : St) : Prop := L (lp66 n) st (ct66 L R n)
theorem hg66 : HG Tryz.prog G66 := (hg_cons h142 hg_nil)
theorem okf66 : Ok Tryz.prog E66 := ok1.of Tryz.f66
theorem e66 (L : Lp) (R : Option Res → Prop) (xs : List (Elem kc)) (n : Int) : (bodyP E1 G66 L Tryz.f66 [.ows 0, .val (.int .i64 n)] [.row kc xs] R) = (
    LOOP66 L R 2 { tm := [AV.ows 0, vI n, vU, vU, vI 0, vI 0, vJ, vJ, vJ, vJ, vJ, vJ, vJ, vJ, vJ, vJ, vJ, vJ, vJ, vJ, vJ, vJ, vJ, vJ, vJ, vJ, vJ, vJ, vJ, vJ, vJ, vJ, vJ, vJ, vJ, vJ, vJ, vJ, vJ, vJ, vJ, vJ, vJ, vJ, vJ, vJ, vJ, vJ, vJ, vJ, vJ, vJ, vJ, vJ, vJ, vJ, vJ, vJ, vJ, vJ, vJ, vJ, vJ, vJ, vJ, vJ, vJ, vJ, vU], ob := [(0, AO.row kc xs)], nx := 1000000, ps := [some 0] }) := by kernel_rfl
def st66 (xs : List (Elem kc)) (n i : Int) : St :=  ⟨[AV.ows 0, .val (.int .i64 n), vU, vU, vI 0, .val (.int .i64 i), vJ, vJ, vJ, vJ, vJ, vJ, vJ, vJ, vJ, vJ, vJ, vJ, vJ, vJ, vJ, vJ, vJ, vJ, vJ, vJ, vJ, vJ, vJ, vJ, vJ, vJ, vJ, vJ, vJ, vJ, vJ, vJ, vJ, vJ, vJ, vJ, vJ, vJ, vJ, vJ, vJ, vJ, vJ, vJ, vJ, vJ, vJ, vJ, vJ, vJ, vJ, vJ, vJ, vJ, vJ, vJ, vJ, vJ, vJ, vJ, vJ, vJ, vU], [(0, .row kc xs)], 1000000, [some 0]⟩
theorem b66 (L : Lp) (R : Option Res → Prop) (N : St → Prop) (xs : List (Elem kc)) (n i : Int) : (evP E66 G66 L (lp66 2) (st66 xs n i) (rk66 L R 2 N)) = (
    br (decide (i < (↑xs.length : Int))) (br (inK n) (br (decide (0 ≤ i ∧ i < (↑xs.length : Int))) (br (decide (0 ≤ i ∧ i < (↑(updR kc xs i.toNat 0 [Value.string (mt n)]).length : Int))) (br (inK (IntKind.i64.wrap (IntKind.i64.wrap (n + 1) + 1))) (br (decide (0 ≤ i ∧ i < (↑(updR kc (updR kc xs i.toNat 0 [Value.string (mt n)]) i.toNat 1 [Value.int IntKind.i64 (IntKind.i64.wrap (n + 1))]).length : Int))) (br (decide (0 ≤ i ∧ i < (↑(updR kc (updR kc (updR kc xs i.toNat 0 [Value.string (mt n)]) i.toNat 1 [Value.int IntKind.i64 (IntKind.i64.wrap (n + 1))]) i.toNat 2 [Value.string (mt (IntKind.i64.wrap (IntKind.i64.wrap (n + 1) + 1)))]).length : Int))) (br (decide (0 ≤ i ∧ i < (↑(updR kc (updR kc (updR kc (updR kc xs i.toNat 0 [Value.string (mt n)]) i.toNat 1 [Value.int IntKind.i64 (IntKind.i64.wrap (n + 1))]) i.toNat 2 [Value.string (mt (IntKind.i64.wrap (IntKind.i64.wrap (n + 1) + 1)))]) i.toNat 27 [Value.int IntKind.i64 (IntKind.i64.wrap (IntKind.i64.wrap (IntKind.i64.wrap (n + 1) + 1) + 1))]).length : Int))) (br (decide (0 ≤ i ∧ i < (↑(updR kc (updR kc (updR kc (updR kc (updR kc xs i.toNat 0 [Value.string (mt n)]) i.toNat 1 [Value.int IntKind.i64 (IntKind.i64.wrap (n + 1))]) i.toNat 2 [Value.string (mt (IntKind.i64.wrap (IntKind.i64.wrap (n + 1) + 1)))]) i.toNat 27 [Value.int IntKind.i64 (IntKind.i64.wrap (IntKind.i64.wrap (IntKind.i64.wrap (n + 1) + 1) + 1))]) i.toNat 28 [Value.int IntKind.i64 (IntKind.i64.wrap (IntKind.i64.wrap (IntKind.i64.wrap (IntKind.i64.wrap (n + 1) + 1) + 1) + 1))]).length : Int))) (br (decide (0 ≤ i ∧ i < (↑(updR kc (updR kc (updR kc (updR kc (updR kc (updR kc xs i.toNat 0 [Value.string (mt n)]) i.toNat 1 [Value.int IntKind.i64 (IntKind.i64.wrap (n + 1))]) i.toNat 2 [Value.string (mt (IntKind.i64.wrap (IntKind.i64.wrap (n + 1) + 1)))]) i.toNat 27 [Value.int IntKind.i64 (IntKind.i64.wrap (IntKind.i64.wrap (IntKind.i64.wrap (n + 1) + 1) + 1))]) i.toNat 28 [Value.int IntKind.i64 (IntKind.i64.wrap (IntKind.i64.wrap (IntKind.i64.wrap (IntKind.i64.wrap (n + 1) + 1) + 1) + 1))]) i.toNat 29 [Value.int IntKind.i64 (IntKind.i64.wrap (IntKind.i64.wrap (IntKind.i64.wrap (IntKind.i64.wrap (IntKind.i64.wrap (n + 1) + 1) + 1) + 1) + 1))]).length : Int))) (N { tm := [AV.ows 0, vI (IntKind.i64.wrap (IntKind.i64.wrap (IntKind.i64.wrap (IntKind.i64.wrap (IntKind.i64.wrap (IntKind.i64.wrap (IntKind.i64.wrap (n + 1) + 1) + 1) + 1) + 1) + 1) + 1)), vU, vU, vI 0, vI (IntKind.i64.wrap (i + 1)), vJ, vJ, vJ, vJ, vJ, vJ, vJ, vJ, vJ, vJ, vJ, vJ, vJ, vJ, vJ, vJ, vJ, vJ, vJ, vJ, vJ, vJ, vJ, vJ, vJ, vJ, vJ, vJ, vJ, vJ, vJ, vJ, vJ, vJ, vJ, vJ, vJ, vJ, vJ, vJ, vJ, vJ, vJ, vJ, vJ, vJ, vJ, vJ, vJ, vJ, vJ, vJ, vJ, vJ, vJ, vJ, vJ, vJ, vJ, vJ, vJ, vJ, vU], ob := [(0, AO.row kc (updR kc (updR kc (updR kc (updR kc (updR kc (updR kc (updR kc xs i.toNat 0 [Value.string (mt n)]) i.toNat 1 [Value.int IntKind.i64 (IntKind.i64.wrap (n + 1))]) i.toNat 2 [Value.string (mt (IntKind.i64.wrap (IntKind.i64.wrap (n + 1) + 1)))]) i.toNat 27 [Value.int IntKind.i64 (IntKind.i64.wrap (IntKind.i64.wrap (IntKind.i64.wrap (n + 1) + 1) + 1))]) i.toNat 28 [Value.int IntKind.i64 (IntKind.i64.wrap (IntKind.i64.wrap (IntKind.i64.wrap (IntKind.i64.wrap (n + 1) + 1) + 1) + 1))]) i.toNat 29 [Value.int IntKind.i64 (IntKind.i64.wrap (IntKind.i64.wrap (IntKind.i64.wrap (IntKind.i64.wrap (IntKind.i64.wrap (n + 1) + 1) + 1) + 1) + 1))]) i.toNat 30 [Value.bool ((IntKind.i64.wrap (IntKind.i64.wrap (IntKind.i64.wrap (IntKind.i64.wrap (IntKind.i64.wrap (IntKind.i64.wrap (n + 1) + 1) + 1) + 1) + 1) + 1)).tmod 3 == 0)]))], nx := 1000000, ps := [some 0] }) False) False) False) False) False) False) False) False) False) (R (some { av := vI n, obs := [AO.row kc xs], outs := [some 0] }))) := by kernel_rfl
theorem h66 : G1Ok Tryz.prog 66 g66 := by
  intro args obs k h
  unfold g66 at h
  split at h
  · rename_i k n cx xs0
    split at h
    rotate_left
    · exact h.elim
    rename_i xs hx
    cases castE_inv hx
    obtain ⟨hp, h⟩ := br_and h
    simp only [inM, decide_eq_true_eq] at hp
    refine ⟨_, ctr_drop okf66 hg66 Tryz.func66 (by kernel_rfl) (by kernel_rfl) (by kernel_rfl) fun C => ?_, h⟩
    show bodyP E1 G66 _ Tryz.f66 [.ows 0, .val (.int .i64 n)] [.row kc xs] _
    rw [e66]
    refine loopUp okf66 hg66 (fun i (p : List (Elem kc) × Int) => st66 p.1 p.2 i) xs.length (fun i p => p.1.length = xs.length ∧ p.2 = n + ((7 * i : Nat) : Int)) (fun N i ⟨ys, m⟩ hi ⟨hl, hm⟩ next => ?_) (xs, n) ⟨rfl, by simp⟩
    show evP E66 G66 _ (lp66 2) (st66 ys m i) (rk66 _ _ 2 _)
    simp only at hl hm next
    rw [b66]
    rw [wrap_id (n := m + 1) (by omega) (by omega), wrap_id (n := m + 1 + 1) (by omega) (by omega), wrap_id (n := m + 1 + 1 + 1) (by omega) (by omega), wrap_id (n := m + 1 + 1 + 1 + 1) (by omega) (by omega), wrap_id (n := m + 1 + 1 + 1 + 1 + 1) (by omega) (by omega), wrap_id (n := m + 1 + 1 + 1 + 1 + 1 + 1) (by omega) (by omega), wrap_id (n := m + 1 + 1 + 1 + 1 + 1 + 1 + 1) (by omega) (by omega), wrap_id (n := (i : Int) + 1) (by omega) (by omega)]
    refine br_dec (fun h2 => br_t (inK_of (by omega) (by omega)) (br_yes ⟨by omega, by omega⟩ (br_yes (upd_ix (⟨by omega, by omega⟩)) (br_t (inK_of (by omega) (by omega)) (br_yes (upd_ix (upd_ix (⟨by omega, by omega⟩))) (br_yes (upd_ix (upd_ix (upd_ix (⟨by omega, by omega⟩)))) (br_yes (upd_ix (upd_ix (upd_ix (upd_ix (⟨by omega, by omega⟩))))) (br_yes (upd_ix (upd_ix (upd_ix (upd_ix (upd_ix (⟨by omega, by omega⟩)))))) (br_yes (upd_ix (upd_ix (upd_ix (upd_ix (upd_ix (upd_ix (⟨by omega, by omega⟩))))))) ?_))))))))) (fun h2 => ?_)
    · refine next (by omega) (_, m + 1 + 1 + 1 + 1 + 1 + 1 + 1) ⟨?_, ?_⟩
      · exact ((updC_len _ _ _ _).trans ((updC_len _ _ _ _).trans ((updC_len _ _ _ _).trans ((updC_len _ _ _ _).trans ((updC_len _ _ _ _).trans ((updC_len _ _ _ _).trans ((updC_len _ _ _ _).trans hl)))))))
      · show m + 1 + 1 + 1 + 1 + 1 + 1 + 1 = _
        omega
    · have : i = xs.length := by omega
      exact ⟨_, _, by rw [hm, this]⟩
  · exact h.elim
def mkCo (c : Co) (n : Int) : Int := n + ((7 * c.2.1.length : Nat) : Int) + ((3 * c.2.2.1.length : Nat) : Int) + ((3 * c.2.2.2.1.length : Nat) : Int) + ((1 * c.2.2.2.2.2.1.length : Nat) : Int)
def inC4 (n : Int) (s d p f : Nat) : Bool := inM n s && (inM (n + ((7 * s : Nat) : Int)) d && (inM (n + ((7 * s : Nat) : Int) + ((3 * d : Nat) : Int)) p && inM (n + ((7 * s : Nat) : Int) + ((3 * d : Nat) : Int) + ((3 * p : Nat) : Int)) f))
def g17 : G1
  | [.agg [.val (.int .i64 x), .ows 0, .ows 1, .ows 2, .val (.bool b), .ows 3, .val (.int .i64 n)], .val (.int .i64 m)], [.row cx s0, .row [.int .i64, .int .i64, .int .i64] d, .row [.int .i64, .int .i64, .int .i64] p, .row [.int .i64] f], k => match castE kc cx s0 with
    | some s => br (inC4 m s.length d.length p.length f.length) (k ⟨.val (.int .i64 (mkCo (x, s, d, p, b, f, n) m)), [], [none, none, none, none]⟩) False
    | none => False
  | _, _, _ => False
noncomputable def E17 : Env := E1.of Tryz.f17
noncomputable def G17 : Gk := gk [(66, g66), (67, g67), (68, g68), (18, g18)]
theorem hg17 : HG Tryz.prog G17 := (hg_cons h66 (hg_cons h67 (hg_cons h68 (hg_cons h18 hg_nil))))
theorem okf17 : Ok Tryz.prog E17 := ok1.of Tryz.f17
theorem e17 (L : Lp) (R : Option Res → Prop) (x : Int) (s : List (Elem kc)) (d p : List (Elem k3)) (b : Bool) (f : List (Elem ki)) (n m : Int) : (bodyP E1 G17 L Tryz.f17 [.agg [.val (.int .i64 x), .ows 0, .ows 1, .ows 2, .val (.bool b), .ows 3, .val (.int .i64 n)], .val (.int .i64 m)] [.row kc s, .row k3 d, .row k3 p, .row ki f] R) = (
    br (inM m s.length) (br (inM (m + (↑(7 * s.length) : Int)) d.length) (br (inM (m + (↑(7 * s.length) : Int) + (↑(3 * d.length) : Int)) p.length) (br (inM (m + (↑(7 * s.length) : Int) + (↑(3 * d.length) : Int) + (↑(3 * p.length) : Int)) f.length) (R (some { av := vI (m + (↑(7 * s.length) : Int) + (↑(3 * d.length) : Int) + (↑(3 * p.length) : Int) + (↑(1 * f.length) : Int)), obs := [AO.row k3 (mkS mk3 3 (m + (↑(7 * s.length) : Int)) d.length), AO.row k3 (mkS mk3 3 (m + (↑(7 * s.length) : Int) + (↑(3 * d.length) : Int)) p.length), AO.row ki (mkS mkI 1 (m + (↑(7 * s.length) : Int) + (↑(3 * d.length) : Int) + (↑(3 * p.length) : Int)) f.length)], outs := [none, some 0, some 1, some 2] })) False) False) False) False) := by kernel_rfl
theorem h17 : G1Ok Tryz.prog 17 g17 := by
  intro args obs k h
  unfold g17 at h
  split at h
  · rename_i k x b n m cx s0 d p f
    split at h
    rotate_left
    · exact h.elim
    rename_i s hx
    cases castE_inv hx
    obtain ⟨hp, h⟩ := br_and h
    unfold inC4 at hp
    simp only [Bool.and_eq_true] at hp
    obtain ⟨h1, h2, h3, h4⟩ := hp
    refine ⟨_, ctr_drop okf17 hg17 Tryz.func17 (by kernel_rfl) (by kernel_rfl) (by kernel_rfl) fun C => ?_, h⟩
    show bodyP E1 G17 _ Tryz.f17 [.agg [.val (.int .i64 x), .ows 0, .ows 1, .ows 2, .val (.bool b), .ows 3, .val (.int .i64 n)], .val (.int .i64 m)] [.row kc s, .row k3 d, .row k3 p, .row ki f] _
    rw [e17]
    exact br_t h1 (br_t h2 (br_t h3 (br_t h4 ⟨_, _, rfl⟩)))
  · exact h.elim
end Go.Proofs.YtkjnijddbiconaaGreatDoor.Ev
