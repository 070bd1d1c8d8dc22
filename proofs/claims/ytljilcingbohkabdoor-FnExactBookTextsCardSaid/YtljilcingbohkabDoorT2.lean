/- Marks in books, texts. -/
import Derived.Test.YtljilcingbohkabDoorT1
import Derived.Test.YtljilcingbohkabDoorD13
import Derived.Test.YtljilcingbohkabDoorEvC
namespace Go.Proofs.YtljilcingbohkabDoor.Ev
open Go
set_option linter.unusedVariables false
set_option linter.unusedSimpArgs false
set_option maxRecDepth 100000
set_option maxHeartbeats 1000000
def E1 : Env := ⟨tt, [30, 31, 92], E0.eqs, .skip, []⟩
def Eg : Env := ⟨tt, [1000000, 30, 31, 92], E0.eqs, .skip, []⟩
theorem ok1 : Ok Tryd.prog E1 := ⟨ttOK, eqsOK, by kernel_rfl⟩
theorem okg : Ok Tryd.prog Eg := ⟨ttOK, eqsOK, by kernel_rfl⟩
def dg (n : Int) : ByteArray := strOf [(IntKind.u8.wrap (IntKind.i64.wrap (48 + n.tmod 10)), ())]
def mtN (n : Nat) (o : ByteArray) : ByteArray := if h : n = 0 then o else mtN (n / 10) (dg n ++ o)
  termination_by n
  decreasing_by omega
def mt (n : Int) : ByteArray := match decide (n ≤ 0) with
  | true => ⟨#[109, 48]⟩
  | false => ⟨#[109]⟩ ++ mtN n.toNat ByteArray.empty
def inK (n : Int) : Bool := decide (0 ≤ n ∧ n ≤ 1099511627776)
def g93 : G1
  | [.val (.int .i64 n)], [], k => br (inK n) (k ⟨.val (.string (mt n)), [], []⟩) False
  | _, _, _ => False
theorem dg_size (n : Int) : (dg n).size = 1 := rfl
noncomputable def E93 : Env := E1.of Tryd.f93
noncomputable def G93 : Gk := gk []
noncomputable def lp93 (n : Nat) : Code := (loopOf n (codeOf Tryd.f93)).getD .skip
noncomputable def ct93 (L : Lp) (R : Option Res → Prop) (n : Nat) : Kt := contOf E93 G93 L n (codeOf Tryd.f93) (endK E93 Tryd.f93.results.toList R)
noncomputable def rk93 (L : Lp) (R : Option Res → Prop) (n : Nat) (N : St → Prop) : Kt := rk (jof E93 (lp93 n)) N (ct93 L R n)
noncomputable def rkn93 (L : Lp) (R : Option Res → Prop) (n : Nat) (N : St → Prop) (m : Nat) (N2 : St → Prop) : Kt := rk (jof E93 (lp93 m)) N2 (contOf E93 G93 L m (lp93 n) (rk93 L R n N))
noncomputable def LOOPN93 (L : Lp) (R : Option Res → Prop) (n : Nat) (N : St → Prop) (m : Nat) (st : St) : Prop := L (lp93 m) st (contOf E93 G93 L m (lp93 n) (rk93 L R n N))
noncomputable def LOOP93 (L : Lp) (R : Option Res → Prop) (n : Nat) (st : St) : Prop := L (lp93 n) st (ct93 L R n)
theorem hg93 : HG Tryd.prog G93 := hg_nil
theorem okf93 : Ok Tryd.prog E93 := ok1.of Tryd.f93
theorem e93 (L : Lp) (R : Option Res → Prop) (n : Int) : (bodyP E1 G93 L Tryd.f93 [.val (.int .i64 n)] [] R) = (
    br (decide (n ≤ 0)) (R (some { av := vS { data := #[109, 48] }, obs := [], outs := [] })) (LOOP93 L R 4 { tm := [vI n, vU, vS { data := #[] }, vS { data := #[] }, vJ, vJ, vJ, vJ, vJ, vJ, vJ, vJ, vJ, vJ, vJ, vJ, vJ, vJ, vU, vU], ob := [], nx := 1000000, ps := [] })) := by kernel_rfl
def st93 (n m : Int) (o : ByteArray) : St :=  ⟨[.val (.int .i64 m), vU, vS { data := #[] }, .val (.string o), vJ, vJ, vJ, vJ, vJ, vJ, vJ, vJ, vJ, vJ, vJ, vJ, vJ, vJ, vU, vU], [], 1000000, []⟩
theorem b93 (L : Lp) (R : Option Res → Prop) (N : St → Prop) (n m : Int) (o : ByteArray) : (evP E93 G93 L (lp93 4) (st93 n m o) (rk93 L R 4 N)) = (
    br (decide (m > 0)) (br (decide ((strOf [(IntKind.u8.wrap (IntKind.i64.wrap (48 + m.tmod 10)), ())]).size + o.size ≤ 9223372036854775807)) (N { tm := [vI (IntKind.i64.wrap (m.tdiv 10)), vU, vS { data := #[] }, vS (strOf [(IntKind.u8.wrap (IntKind.i64.wrap (48 + m.tmod 10)), ())] ++ o), vJ, vJ, vJ, vJ, vJ, vJ, vJ, vJ, vJ, vJ, vJ, vJ, vJ, vJ, vU, vU], ob := [], nx := 1000000, ps := [] }) False) (br (decide (1 + o.size ≤ 9223372036854775807)) (R (some { av := vS ({ data := #[109] } ++ o), obs := [], outs := [] })) False)) := by kernel_rfl
theorem h93 : G1Ok Tryd.prog 93 g93 := by
  intro args obs k h
  unfold g93 at h
  split at h
  · rename_i k n
    obtain ⟨hn, h⟩ := br_and h
    simp only [inK, decide_eq_true_eq] at hn
    obtain ⟨n, rfl⟩ : ∃ m : Nat, n = m := ⟨n.toNat, by omega⟩
    refine ⟨_, ctr_fn ok1 hg93 Tryd.func93 (by kernel_rfl) (by kernel_rfl) (by kernel_rfl) fun C => ?_, h⟩
    rw [e93]
    refine br_intro (fun h1 => ?_) (fun h1 => ?_)
    · show _ = _
      unfold mt
      rw [h1]
    have hm : mt n = ⟨#[109]⟩ ++ mtN n ByteArray.empty := by
      unfold mt
      rw [h1]
      rfl
    have h1' := of_decide_eq_false h1
    refine loopR okf93 hg93 (ι := {p : Nat × ByteArray // p.2.size + p.1 ≤ n ∧ mtN p.1 p.2 = mtN n ByteArray.empty}) (fun p => st93 n p.1.1 p.1.2) (fun p => p.1.1) (fun ⟨(m, o), hs, he⟩ => ?_) ⟨(n, ByteArray.empty), by show ByteArray.empty.size + n ≤ n; have : ByteArray.empty.size = 0 := rfl; omega, rfl⟩
    show evP E93 G93 _ (lp93 4) (st93 n m o) (rk93 _ _ 4 _)
    simp only at hs he
    rw [b93]
    refine br_dec (fun h2 => ?_) (fun h2 => ?_)
    · have hd : (strOf [(IntKind.u8.wrap (IntKind.i64.wrap (48 + (m : Int).tmod 10)), ())]).size = 1 := dg_size m
      refine br_yes (by rw [hd]; omega) ?_
      have hq : (m : Int).tdiv 10 = ((m / 10 : Nat) : Int) := rfl
      rw [hq, wrap_id (by omega) (by omega)]
      refine ⟨⟨(m / 10, dg m ++ o), ?_, ?_⟩, rfl, by show m / 10 < m; omega⟩
      · show (dg m ++ o).size + m / 10 ≤ n
        rw [ByteArray.size_append, dg_size]
        omega
      · show mtN (m / 10) (dg m ++ o) = _
        rw [← he]
        conv => rhs; rw [mtN]
        rw [dif_neg (by omega)]
    · refine br_yes (by omega) ?_
      show _ = _
      have : m = 0 := by omega
      subst this
      rw [hm, ← he, mtN]
      rfl
  · exact h.elim
def mkS {α : Type} (f : Int → α) (w : Nat) (k : Int) (n : Nat) : List α := (List.range n).map fun i => f (k + ((w * i : Nat) : Int))
def mkT (k : Int) : Elem ks := (mt k, ())
def hdR (b : Bool) (k : Int) : Int := match b with
  | true => k
  | false => -1
def hdB (cs : List CK) (f : Int → Elem cs) (w : Nat) (k : Int) (xs : List (Elem cs)) : Bool := allB xs.length fun i => elemEq cs (xs.getD i (edflt cs)) (f (k + ((w * i : Nat) : Int)))
def inM (n : Int) (l : Nat) : Bool := decide (0 ≤ n ∧ n ≤ 549755813888 ∧ (l : Int) ≤ 1073741824)
theorem mkS_getD {α : Type} (f : Int → α) (w : Nat) (k : Int) (n : Nat) (d : α) {i : Nat} (hi : i < n) : (mkS f w k n).getD i d = f (k + ((w * i : Nat) : Int)) := by
  unfold mkS
  rw [List.getD_eq_getElem?_getD, List.getElem?_map, List.getElem?_range hi]
  rfl
theorem getD_set {α : Type} (ys : List α) (a d : α) {i : Nat} (h : i < ys.length) : (ys.set i a).getD i d = a := by
  rw [List.getD_eq_getElem?_getD, List.getElem?_set_self h]
  rfl
theorem inK_of {n : Int} (h1 : 0 ≤ n) (h2 : n ≤ 1099511627776) : inK n = true := by
  unfold inK
  exact decide_eq_true ⟨h1, h2⟩
theorem inM_ge {n : Int} {l : Nat} (h : inM n l = true) : 0 ≤ n := (of_decide_eq_true h).1
theorem hdR_lt {b : Bool} {n : Int} (h : 0 ≤ n) : hdR b n < 0 ↔ b = false := by
  cases b
  · simp [hdR]
  · simp [hdR]
    exact h
theorem hdB_mk (cs : List CK) (f : Int → Elem cs) (w : Nat) (k : Int) (n : Nat) : hdB cs f w k (mkS f w k n) = true := by
  refine allB_t fun i hi => ?_
  have hi : i < n := by simpa [mkS] using hi
  rw [mkS_getD _ _ _ _ _ hi]
  exact elemEq_self _ _
theorem mkS_len {α : Type} (f : Int → α) (w : Nat) (k : Int) (n : Nat) : (mkS f w k n).length = n := by simp [mkS]
theorem inM_of {n : Nat} (h : n ≤ 1048576) : inM 1 n = true := by
  unfold inM
  exact decide_eq_true ⟨by omega, by omega, by omega⟩
def g31 : G1
  | [.ows 0, .val (.int .i64 n)], [.row [.str] xs], k => br (inM n xs.length) (k ⟨.val (.int .i64 (n + ((1 * xs.length : Nat) : Int))), [.row ks (mkS mkT 1 n xs.length)], [some 0]⟩) False
  | _, _, _ => False
noncomputable def E31 : Env := E1.of Tryd.f31
noncomputable def G31 : Gk := gk [(93, g93)]
noncomputable def lp31 (n : Nat) : Code := (loopOf n (codeOf Tryd.f31)).getD .skip
noncomputable def ct31 (L : Lp) (R : Option Res → Prop) (n : Nat) : Kt := contOf E31 G31 L n (codeOf Tryd.f31) (endK E31 Tryd.f31.results.toList R)
noncomputable def rk31 (L : Lp) (R : Option Res → Prop) (n : Nat) (N : St → Prop) : Kt := rk (jof E31 (lp31 n)) N (ct31 L R n)
noncomputable def rkn31 (L : Lp) (R : Option Res → Prop) (n : Nat) (N : St → Prop) (m : Nat) (N2 : St → Prop) : Kt := rk (jof E31 (lp31 m)) N2 (contOf E31 G31 L m (lp31 n) (rk31 L R n N))
noncomputable def LOOPN31 (L : Lp) (R : Option Res → Prop) (n : Nat) (N : St → Prop) (m : Nat) (st : St) : Prop := L (lp31 m) st (contOf E31 G31 L m (lp31 n) (rk31 L R n N))
noncomputable def LOOP31 (L : Lp) (R : Option Res → Prop) (n : Nat) (st : St) : Prop := L (lp31 n) st (ct31 L R n)
theorem hg31 : HG Tryd.prog G31 := (hg_cons h93 hg_nil)
theorem okf31 : Ok Tryd.prog E31 := ok1.of Tryd.f31
theorem e31 (L : Lp) (R : Option Res → Prop) (xs : List (Elem ks)) (n : Int) : (bodyP E1 G31 L Tryd.f31 [.ows 0, .val (.int .i64 n)] [.row ks xs] R) = (
    LOOP31 L R 2 { tm := [AV.ows 0, vI n, vU, vU, vI 0, vI 0, vJ, vJ, vJ, vJ, vJ, vJ, vJ, vJ, vJ, vJ, vJ, vJ, vJ, vU], ob := [(0, AO.row ks xs)], nx := 1000000, ps := [some 0] }) := by kernel_rfl
def st31 (xs : List (Elem ks)) (n i : Int) : St :=  ⟨[AV.ows 0, .val (.int .i64 n), vU, vU, vI 0, .val (.int .i64 i), vJ, vJ, vJ, vJ, vJ, vJ, vJ, vJ, vJ, vJ, vJ, vJ, vJ, vU], [(0, .row ks xs)], 1000000, [some 0]⟩
theorem b31 (L : Lp) (R : Option Res → Prop) (N : St → Prop) (xs : List (Elem ks)) (n i : Int) : (evP E31 G31 L (lp31 2) (st31 xs n i) (rk31 L R 2 N)) = (
    br (decide (i < (↑xs.length : Int))) (br (inK n) (br (decide (0 ≤ i ∧ i < (↑xs.length : Int))) (N { tm := [AV.ows 0, vI (IntKind.i64.wrap (n + 1)), vU, vU, vI 0, vI (IntKind.i64.wrap (i + 1)), vJ, vJ, vJ, vJ, vJ, vJ, vJ, vJ, vJ, vJ, vJ, vJ, vJ, vU], ob := [(0, AO.row ks (xs.set i.toNat (mt n, ())))], nx := 1000000, ps := [some 0] }) False) False) (R (some { av := vI n, obs := [AO.row ks xs], outs := [some 0] }))) := by kernel_rfl
theorem h31 : G1Ok Tryd.prog 31 g31 := by
  intro args obs k h
  unfold g31 at h
  split at h
  · rename_i k n xs
    obtain ⟨hp, h⟩ := br_and h
    simp only [inM, decide_eq_true_eq] at hp
    refine ⟨_, ctr_fn ok1 hg31 Tryd.func31 (by kernel_rfl) (by kernel_rfl) (by kernel_rfl) fun C => ?_, h⟩
    rw [e31]
    refine loopUp okf31 hg31 (fun i (p : List (Elem ks) × Int) => st31 p.1 p.2 i) xs.length (fun i p => Cp (mkS mkT 1 n xs.length) i p.1 ∧ p.2 = n + ((1 * i : Nat) : Int)) (fun N i ⟨ys, m⟩ hi ⟨hc, hm⟩ next => ?_) (xs, n) ⟨⟨by simp [mkS], by simp⟩, by simp⟩
    show evP E31 G31 _ (lp31 2) (st31 ys m i) (rk31 _ _ 2 _)
    have hl : ys.length = xs.length := by
      have := hc.len
      simpa [mkS] using this
    simp only at hm hc next
    rw [b31, wrap_id (n := (i : Int) + 1) (by omega) (by omega), Int.toNat_natCast, wrap_id (n := m + 1) (by omega) (by omega)]
    refine br_dec (fun h2 => ?_) (fun h2 => ?_)
    · have hi' : i < xs.length := by omega
      have gs : ∀ a, (ys.set i a).getD i (edflt ks) = a := fun a => getD_set ys a _ (by omega)
      have hn := hc.next (i := i) (d := edflt ks) (by simpa [mkS] using hi')
      rw [mkS_getD _ _ _ _ _ hi', ← hm] at hn
      skip
      refine br_t (inK_of (by omega) (by omega)) (br_yes ⟨by omega, by omega⟩ (?_))
      have e : m + 1 = n + ((1 * (i + 1) : Nat) : Int) := by omega
      refine next hi' (ys.set i (mkT m), m + 1) ⟨hn, e⟩
    · have hi' : i = xs.length := by omega
      show _ = _
      rw [hc.done (by simp [mkS]; omega), hm, hi']
  · exact h.elim
def g32 : G1
  | [.rsl [.str] xs, .val (.int .i64 n)], [], k => br (inM n xs.length) (k ⟨.val (.int .i64 (hdR (hdB ks mkT 1 n xs) (n + ((1 * xs.length : Nat) : Int)))), [], []⟩) False
  | _, _, _ => False
noncomputable def E32 : Env := E1.of Tryd.f32
noncomputable def G32 : Gk := gk [(93, g93)]
noncomputable def lp32 (n : Nat) : Code := (loopOf n (codeOf Tryd.f32)).getD .skip
noncomputable def ct32 (L : Lp) (R : Option Res → Prop) (n : Nat) : Kt := contOf E32 G32 L n (codeOf Tryd.f32) (endK E32 Tryd.f32.results.toList R)
noncomputable def rk32 (L : Lp) (R : Option Res → Prop) (n : Nat) (N : St → Prop) : Kt := rk (jof E32 (lp32 n)) N (ct32 L R n)
noncomputable def rkn32 (L : Lp) (R : Option Res → Prop) (n : Nat) (N : St → Prop) (m : Nat) (N2 : St → Prop) : Kt := rk (jof E32 (lp32 m)) N2 (contOf E32 G32 L m (lp32 n) (rk32 L R n N))
noncomputable def LOOPN32 (L : Lp) (R : Option Res → Prop) (n : Nat) (N : St → Prop) (m : Nat) (st : St) : Prop := L (lp32 m) st (contOf E32 G32 L m (lp32 n) (rk32 L R n N))
noncomputable def LOOP32 (L : Lp) (R : Option Res → Prop) (n : Nat) (st : St) : Prop := L (lp32 n) st (ct32 L R n)
theorem hg32 : HG Tryd.prog G32 := (hg_cons h93 hg_nil)
theorem okf32 : Ok Tryd.prog E32 := ok1.of Tryd.f32
theorem e32 (L : Lp) (R : Option Res → Prop) (xs : List (Elem ks)) (n : Int) : (bodyP E1 G32 L Tryd.f32 [.rsl ks xs, .val (.int .i64 n)] [] R) = (
    LOOP32 L R 2 { tm := [AV.rsl ks xs, vI n, vU, vU, vI 0, vI 0, vJ, vJ, vJ, vJ, vJ, vJ, vJ, vJ, vJ, vJ, vJ, vJ, vJ, vJ, vJ, vU], ob := [], nx := 1000000, ps := [] }) := by kernel_rfl
def st32 (xs : List (Elem ks)) (n i : Int) : St :=  ⟨[AV.rsl ks xs, .val (.int .i64 n), vU, vU, vI 0, .val (.int .i64 i), vJ, vJ, vJ, vJ, vJ, vJ, vJ, vJ, vJ, vJ, vJ, vJ, vJ, vJ, vJ, vU], [], 1000000, []⟩
theorem b32 (L : Lp) (R : Option Res → Prop) (N : St → Prop) (xs : List (Elem ks)) (n i : Int) : (evP E32 G32 L (lp32 2) (st32 xs n i) (rk32 L R 2 N)) = (
    br (decide (i < (↑xs.length : Int))) (br (decide (0 ≤ i ∧ i < (↑xs.length : Int))) (br (inK n) (br (!strEq (xs.getD i.toNat (edflt ks)).fst (mt n)) (R (some { av := vI (-1), obs := [], outs := [] })) (N { tm := [AV.rsl ks xs, vI (IntKind.i64.wrap (n + 1)), vU, vU, vI 0, vI (IntKind.i64.wrap (i + 1)), vJ, vJ, vJ, vJ, vJ, vJ, vJ, vJ, vJ, vJ, vJ, vJ, vJ, vJ, vJ, vU], ob := [], nx := 1000000, ps := [] })) False) False) (R (some { av := vI n, obs := [], outs := [] }))) := by kernel_rfl
theorem h32 : G1Ok Tryd.prog 32 g32 := by
  intro args obs k h
  unfold g32 at h
  split at h
  · rename_i k xs n
    obtain ⟨hp, h⟩ := br_and h
    simp only [inM, decide_eq_true_eq] at hp
    refine ⟨_, ctr_fn ok1 hg32 Tryd.func32 (by kernel_rfl) (by kernel_rfl) (by kernel_rfl) fun C => ?_, h⟩
    rw [e32]
    refine loopUp okf32 hg32 (fun i (m : Int) => st32 xs m i) xs.length (fun i m => (∀ j, j < i → elemEq ks (xs.getD j (edflt ks)) (mkT (n + ((1 * j : Nat) : Int))) = true) ∧ m = n + ((1 * i : Nat) : Int)) (fun N i m hi ⟨hall, hm⟩ next => ?_) n ⟨fun j hj => by omega, by simp⟩
    show evP E32 G32 _ (lp32 2) (st32 xs m i) (rk32 _ _ 2 _)
    rw [b32, wrap_id (n := (i : Int) + 1) (by omega) (by omega), Int.toNat_natCast, wrap_id (n := m + 1) (by omega) (by omega)]
    have he : elemEq ks (xs.getD i (edflt ks)) (mkT (n + ((1 * i : Nat) : Int))) = ((strEq (xs.getD i (edflt ks)).1 (mt m))) := by
      rw [← hm]
      unfold mkT
      rfl
    refine br_dec (fun h2 => ?_) (fun h2 => ?_)
    · have fails : elemEq ks (xs.getD i (edflt ks)) (mkT (n + ((1 * i : Nat) : Int))) = false → (-1 : Int) = hdR (hdB ks mkT 1 n xs) (n + ((1 * xs.length : Nat) : Int)) := by
        intro hf
        rw [show hdB ks mkT 1 n xs = false from allB_f (i := i) (by omega) hf]
        rfl
      refine br_yes ⟨by omega, by omega⟩ (br_t (inK_of (by omega) (by omega)) (br_not (fun q0 => ?_) (fun q0 => ?_)))
      · show _ = _
        rw [fails (by rw [he, q0] <;> rfl)]
      · refine next (by omega) _ ⟨fun j hj => ?_, by omega⟩
        by_cases e : j < i
        · exact hall j e
        · have : j = i := by omega
          rw [this, he, q0]
    · have hi' : i = xs.length := by omega
      show _ = _
      rw [show hdB ks mkT 1 n xs = true from allB_t fun j hj => hall j (by omega), hm, hi']
      rfl
  · exact h.elim
def g92 : G1
  | [.ows 0, .val (.int .i64 n)], [.row [.str, .int .i64, .str, .str, .str, .str, .str, .str, .str, .str, .str] xs], k => br (inM n xs.length) (k ⟨.val (.int .i64 (n + ((11 * xs.length : Nat) : Int))), [], [none]⟩) False
  | _, _, _ => False
def g30 : G1
  | [.agg [.ows 0], .val (.int .i64 n)], [.row [.str, .int .i64, .str, .str, .str, .str, .str, .str, .str, .str, .str] xs], k => br (inM n xs.length) (k ⟨.val (.int .i64 (n + ((11 * xs.length : Nat) : Int))), [], [none]⟩) False
  | _, _, _ => False
theorem updB_len (xs : List (Elem kb)) (i j : Nat) (vs : List Value) : (updR kb xs i j vs).length = xs.length := by
  unfold updR
  rw [List.length_set]
theorem updB_ix {ys : List (Elem kb)} {i : Int} {q j : Nat} {vs : List Value} (h : 0 ≤ i ∧ i < (ys.length : Int)) : 0 ≤ i ∧ i < ((updR kb ys q j vs).length : Int) := by
  rw [updB_len]
  exact h
noncomputable def E92 : Env := Eg.of Tryd.f92
noncomputable def G92 : Gk := gk [(93, g93)]
noncomputable def lp92 (n : Nat) : Code := (loopOf n (codeOf Tryd.f92)).getD .skip
noncomputable def ct92 (L : Lp) (R : Option Res → Prop) (n : Nat) : Kt := contOf E92 G92 L n (codeOf Tryd.f92) (endK E92 Tryd.f92.results.toList R)
noncomputable def rk92 (L : Lp) (R : Option Res → Prop) (n : Nat) (N : St → Prop) : Kt := rk (jof E92 (lp92 n)) N (ct92 L R n)
noncomputable def rkn92 (L : Lp) (R : Option Res → Prop) (n : Nat) (N : St → Prop) (m : Nat) (N2 : St → Prop) : Kt := rk (jof E92 (lp92 m)) N2 (contOf E92 G92 L m (lp92 n) (rk92 L R n N))
noncomputable def LOOPN92 (L : Lp) (R : Option Res → Prop) (n : Nat) (N : St → Prop) (m : Nat) (st : St) : Prop := L (lp92 m) st (contOf E92 G92 L m (lp92 n) (rk92 L R n N))
noncomputable def LOOP92 (L : Lp) (R : Option Res → Prop) (n : Nat) (st : St) : Prop := L (lp92 n) st (ct92 L R n)
theorem hg92 : HG Tryd.prog G92 := (hg_cons h93 hg_nil)
theorem okf92 : Ok Tryd.prog E92 := okg.of Tryd.f92
theorem e92 (L : Lp) (R : Option Res → Prop) (xs : List (Elem kb)) (n : Int) : (bodyP Eg G92 L Tryd.f92 [.ows 0, .val (.int .i64 n)] [.row kb xs] R) = (
    LOOP92 L R 2 { tm := [AV.ows 0, vI n, vJ, vJ, vJ, vI 0, vJ, vJ, vJ, vJ, vJ, vJ, vJ, vJ, vJ, vJ, vJ, vJ, vJ, vJ, vJ, vJ, vJ, vJ, vJ, vJ, vJ, vJ, vJ, vJ, vJ, vJ, vJ, vJ, vJ, vJ, vJ, vJ, vJ, vJ, vJ, vJ, vJ, vJ, vJ, vJ, vJ, vJ, vJ, vJ, vJ], ob := [(0, AO.row kb xs)], nx := 1000000, ps := [some 0] }) := by kernel_rfl
def st92 (xs : List (Elem kb)) (n i : Int) : St :=  ⟨[AV.ows 0, .val (.int .i64 n), vJ, vJ, vJ, .val (.int .i64 i), vJ, vJ, vJ, vJ, vJ, vJ, vJ, vJ, vJ, vJ, vJ, vJ, vJ, vJ, vJ, vJ, vJ, vJ, vJ, vJ, vJ, vJ, vJ, vJ, vJ, vJ, vJ, vJ, vJ, vJ, vJ, vJ, vJ, vJ, vJ, vJ, vJ, vJ, vJ, vJ, vJ, vJ, vJ, vJ, vJ], [(0, .row kb xs)], 1000000, [some 0]⟩
theorem b92 (L : Lp) (R : Option Res → Prop) (N : St → Prop) (xs : List (Elem kb)) (n i : Int) : (evP E92 G92 L (lp92 2) (st92 xs n i) (rk92 L R 2 N)) = (
    br (decide (i < (↑xs.length : Int))) (br (inK n) (br (decide (0 ≤ i ∧ i < (↑xs.length : Int))) (br (decide (0 ≤ i ∧ i < (↑(updR kb xs i.toNat 0 [Value.string (mt n)]).length : Int))) (br (inK (IntKind.i64.wrap (IntKind.i64.wrap (n + 1) + 1))) (br (decide (0 ≤ i ∧ i < (↑(updR kb (updR kb xs i.toNat 0 [Value.string (mt n)]) i.toNat 1 [Value.int IntKind.i64 (IntKind.i64.wrap (n + 1))]).length : Int))) (LOOPN92 L R 2 N 11 { tm := [AV.ows 0, vI (IntKind.i64.wrap (IntKind.i64.wrap (IntKind.i64.wrap (n + 1) + 1) + 1)), vJ, vJ, vJ, vI i, vI 0, vJ, vJ, vJ, vJ, vJ, vJ, vJ, vJ, vJ, vJ, vJ, vJ, vJ, vJ, vJ, vJ, vJ, vJ, vJ, vJ, vJ, vJ, vJ, vJ, vJ, vJ, vJ, vJ, vJ, vJ, vJ, vJ, vJ, vJ, vJ, vJ, vJ, vJ, vJ, vJ, vJ, vJ, vJ, vJ], ob := [(0, AO.row kb (updR kb (updR kb (updR kb xs i.toNat 0 [Value.string (mt n)]) i.toNat 1 [Value.int IntKind.i64 (IntKind.i64.wrap (n + 1))]) i.toNat 2 [Value.string (mt (IntKind.i64.wrap (IntKind.i64.wrap (n + 1) + 1)))]))], nx := 1000000, ps := [some 0] }) False) False) False) False) False) (R (some { av := vI n, obs := [AO.row kb xs], outs := [some 0] }))) := by kernel_rfl
def si92 (ys : List (Elem kb)) (n i j : Int) : St :=  ⟨[AV.ows 0, .val (.int .i64 n), vJ, vJ, vJ, .val (.int .i64 i), .val (.int .i64 j), vJ, vJ, vJ, vJ, vJ, vJ, vJ, vJ, vJ, vJ, vJ, vJ, vJ, vJ, vJ, vJ, vJ, vJ, vJ, vJ, vJ, vJ, vJ, vJ, vJ, vJ, vJ, vJ, vJ, vJ, vJ, vJ, vJ, vJ, vJ, vJ, vJ, vJ, vJ, vJ, vJ, vJ, vJ, vJ], [(0, .row kb ys)], 1000000, [some 0]⟩
theorem bi92_0 (L : Lp) (R : Option Res → Prop) (N N2 : St → Prop) (ys : List (Elem kb)) (n i : Int) : (evP E92 G92 L (lp92 11) (si92 ys n i 0) (rkn92 L R 2 N 11 N2)) = (
    br (inK n) (br (decide (0 ≤ i ∧ i < (↑ys.length : Int))) (N2 { tm := [AV.ows 0, vI (IntKind.i64.wrap (n + 1)), vJ, vJ, vJ, vI i, vI 1, vJ, vJ, vJ, vJ, vJ, vJ, vJ, vJ, vJ, vJ, vJ, vJ, vJ, vJ, vJ, vJ, vJ, vJ, vJ, vJ, vJ, vJ, vJ, vJ, vJ, vJ, vJ, vJ, vJ, vJ, vJ, vJ, vJ, vJ, vJ, vJ, vJ, vJ, vJ, vJ, vJ, vJ, vJ, vJ], ob := [(0, AO.row kb (updR kb ys i.toNat 3 [Value.string (mt n)]))], nx := 1000000, ps := [some 0] }) False) False) := by kernel_rfl
theorem bi92_1 (L : Lp) (R : Option Res → Prop) (N N2 : St → Prop) (ys : List (Elem kb)) (n i : Int) : (evP E92 G92 L (lp92 11) (si92 ys n i 1) (rkn92 L R 2 N 11 N2)) = (
    br (inK n) (br (decide (0 ≤ i ∧ i < (↑ys.length : Int))) (N2 { tm := [AV.ows 0, vI (IntKind.i64.wrap (n + 1)), vJ, vJ, vJ, vI i, vI 2, vJ, vJ, vJ, vJ, vJ, vJ, vJ, vJ, vJ, vJ, vJ, vJ, vJ, vJ, vJ, vJ, vJ, vJ, vJ, vJ, vJ, vJ, vJ, vJ, vJ, vJ, vJ, vJ, vJ, vJ, vJ, vJ, vJ, vJ, vJ, vJ, vJ, vJ, vJ, vJ, vJ, vJ, vJ, vJ], ob := [(0, AO.row kb (updR kb ys i.toNat 4 [Value.string (mt n)]))], nx := 1000000, ps := [some 0] }) False) False) := by kernel_rfl
theorem bi92_2 (L : Lp) (R : Option Res → Prop) (N N2 : St → Prop) (ys : List (Elem kb)) (n i : Int) : (evP E92 G92 L (lp92 11) (si92 ys n i 2) (rkn92 L R 2 N 11 N2)) = (
    br (inK n) (br (decide (0 ≤ i ∧ i < (↑ys.length : Int))) (N2 { tm := [AV.ows 0, vI (IntKind.i64.wrap (n + 1)), vJ, vJ, vJ, vI i, vI 3, vJ, vJ, vJ, vJ, vJ, vJ, vJ, vJ, vJ, vJ, vJ, vJ, vJ, vJ, vJ, vJ, vJ, vJ, vJ, vJ, vJ, vJ, vJ, vJ, vJ, vJ, vJ, vJ, vJ, vJ, vJ, vJ, vJ, vJ, vJ, vJ, vJ, vJ, vJ, vJ, vJ, vJ, vJ, vJ], ob := [(0, AO.row kb (updR kb ys i.toNat 5 [Value.string (mt n)]))], nx := 1000000, ps := [some 0] }) False) False) := by kernel_rfl
theorem bi92_3 (L : Lp) (R : Option Res → Prop) (N N2 : St → Prop) (ys : List (Elem kb)) (n i : Int) : (evP E92 G92 L (lp92 11) (si92 ys n i 3) (rkn92 L R 2 N 11 N2)) = (
    br (inK n) (br (decide (0 ≤ i ∧ i < (↑ys.length : Int))) (N2 { tm := [AV.ows 0, vI (IntKind.i64.wrap (n + 1)), vJ, vJ, vJ, vI i, vI 4, vJ, vJ, vJ, vJ, vJ, vJ, vJ, vJ, vJ, vJ, vJ, vJ, vJ, vJ, vJ, vJ, vJ, vJ, vJ, vJ, vJ, vJ, vJ, vJ, vJ, vJ, vJ, vJ, vJ, vJ, vJ, vJ, vJ, vJ, vJ, vJ, vJ, vJ, vJ, vJ, vJ, vJ, vJ, vJ], ob := [(0, AO.row kb (updR kb ys i.toNat 6 [Value.string (mt n)]))], nx := 1000000, ps := [some 0] }) False) False) := by kernel_rfl
theorem bi92_4 (L : Lp) (R : Option Res → Prop) (N N2 : St → Prop) (ys : List (Elem kb)) (n i : Int) : (evP E92 G92 L (lp92 11) (si92 ys n i 4) (rkn92 L R 2 N 11 N2)) = (
    br (inK n) (br (decide (0 ≤ i ∧ i < (↑ys.length : Int))) (N2 { tm := [AV.ows 0, vI (IntKind.i64.wrap (n + 1)), vJ, vJ, vJ, vI i, vI 5, vJ, vJ, vJ, vJ, vJ, vJ, vJ, vJ, vJ, vJ, vJ, vJ, vJ, vJ, vJ, vJ, vJ, vJ, vJ, vJ, vJ, vJ, vJ, vJ, vJ, vJ, vJ, vJ, vJ, vJ, vJ, vJ, vJ, vJ, vJ, vJ, vJ, vJ, vJ, vJ, vJ, vJ, vJ, vJ], ob := [(0, AO.row kb (updR kb ys i.toNat 7 [Value.string (mt n)]))], nx := 1000000, ps := [some 0] }) False) False) := by kernel_rfl
theorem bi92_5 (L : Lp) (R : Option Res → Prop) (N N2 : St → Prop) (ys : List (Elem kb)) (n i : Int) : (evP E92 G92 L (lp92 11) (si92 ys n i 5) (rkn92 L R 2 N 11 N2)) = (
    br (inK n) (br (decide (0 ≤ i ∧ i < (↑ys.length : Int))) (N2 { tm := [AV.ows 0, vI (IntKind.i64.wrap (n + 1)), vJ, vJ, vJ, vI i, vI 6, vJ, vJ, vJ, vJ, vJ, vJ, vJ, vJ, vJ, vJ, vJ, vJ, vJ, vJ, vJ, vJ, vJ, vJ, vJ, vJ, vJ, vJ, vJ, vJ, vJ, vJ, vJ, vJ, vJ, vJ, vJ, vJ, vJ, vJ, vJ, vJ, vJ, vJ, vJ, vJ, vJ, vJ, vJ, vJ], ob := [(0, AO.row kb (updR kb ys i.toNat 8 [Value.string (mt n)]))], nx := 1000000, ps := [some 0] }) False) False) := by kernel_rfl
theorem bi92_6 (L : Lp) (R : Option Res → Prop) (N N2 : St → Prop) (ys : List (Elem kb)) (n i : Int) : (evP E92 G92 L (lp92 11) (si92 ys n i 6) (rkn92 L R 2 N 11 N2)) = (
    br (inK n) (br (decide (0 ≤ i ∧ i < (↑ys.length : Int))) (N2 { tm := [AV.ows 0, vI (IntKind.i64.wrap (n + 1)), vJ, vJ, vJ, vI i, vI 7, vJ, vJ, vJ, vJ, vJ, vJ, vJ, vJ, vJ, vJ, vJ, vJ, vJ, vJ, vJ, vJ, vJ, vJ, vJ, vJ, vJ, vJ, vJ, vJ, vJ, vJ, vJ, vJ, vJ, vJ, vJ, vJ, vJ, vJ, vJ, vJ, vJ, vJ, vJ, vJ, vJ, vJ, vJ, vJ], ob := [(0, AO.row kb (updR kb ys i.toNat 9 [Value.string (mt n)]))], nx := 1000000, ps := [some 0] }) False) False) := by kernel_rfl
theorem bi92_7 (L : Lp) (R : Option Res → Prop) (N N2 : St → Prop) (ys : List (Elem kb)) (n i : Int) : (evP E92 G92 L (lp92 11) (si92 ys n i 7) (rkn92 L R 2 N 11 N2)) = (
    br (inK n) (br (decide (0 ≤ i ∧ i < (↑ys.length : Int))) (N2 { tm := [AV.ows 0, vI (IntKind.i64.wrap (n + 1)), vJ, vJ, vJ, vI i, vI 8, vJ, vJ, vJ, vJ, vJ, vJ, vJ, vJ, vJ, vJ, vJ, vJ, vJ, vJ, vJ, vJ, vJ, vJ, vJ, vJ, vJ, vJ, vJ, vJ, vJ, vJ, vJ, vJ, vJ, vJ, vJ, vJ, vJ, vJ, vJ, vJ, vJ, vJ, vJ, vJ, vJ, vJ, vJ, vJ], ob := [(0, AO.row kb (updR kb ys i.toNat 10 [Value.string (mt n)]))], nx := 1000000, ps := [some 0] }) False) False) := by kernel_rfl
theorem bi92_8 (L : Lp) (R : Option Res → Prop) (N N2 : St → Prop) (ys : List (Elem kb)) (n i : Int) : (evP E92 G92 L (lp92 11) (si92 ys n i 8) (rkn92 L R 2 N 11 N2)) = (
    N { tm := [AV.ows 0, vI n, vJ, vJ, vJ, vI (IntKind.i64.wrap (i + 1)), vJ, vJ, vJ, vJ, vJ, vJ, vJ, vJ, vJ, vJ, vJ, vJ, vJ, vJ, vJ, vJ, vJ, vJ, vJ, vJ, vJ, vJ, vJ, vJ, vJ, vJ, vJ, vJ, vJ, vJ, vJ, vJ, vJ, vJ, vJ, vJ, vJ, vJ, vJ, vJ, vJ, vJ, vJ, vJ, vJ], ob := [(0, AO.row kb ys)], nx := 1000000, ps := [some 0] }) := by kernel_rfl
theorem h92 : G1Ok Tryd.prog 92 g92 := by
  intro args obs k h
  unfold g92 at h
  split at h
  · rename_i k n xs
    obtain ⟨hp, h⟩ := br_and h
    simp only [inM, decide_eq_true_eq] at hp
    refine ⟨_, ctr_drop okg hg92 Tryd.func92 (by kernel_rfl) (by kernel_rfl) (by kernel_rfl) fun C => ?_, h⟩
    rw [e92]
    refine loopUp okf92 hg92 (fun i (p : List (Elem kb) × Int) => st92 p.1 p.2 i) xs.length (fun i p => p.1.length = xs.length ∧ p.2 = n + ((11 * i : Nat) : Int)) (fun N i ⟨ys, m⟩ hi ⟨hl, hm⟩ next => ?_) (xs, n) ⟨rfl, by simp⟩
    show evP E92 G92 _ (lp92 2) (st92 ys m i) (rk92 _ _ 2 _)
    simp only at hl hm next
    rw [b92, wrap_id (n := m + 1) (by omega) (by omega), wrap_id (n := m + 1 + 1) (by omega) (by omega), wrap_id (n := m + 1 + 1 + 1) (by omega) (by omega)]
    refine br_dec (fun h2 => br_t (inK_of (by omega) (by omega)) (br_yes ⟨by omega, by omega⟩ (br_yes (updB_ix ⟨by omega, by omega⟩) (br_t (inK_of (by omega) (by omega)) (br_yes (updB_ix (updB_ix ⟨by omega, by omega⟩)) ?_))))) (fun h2 => ?_)
    · refine loopUp okf92 hg92 (fun j (p : List (Elem kb) × Int) => si92 p.1 p.2 i j) 8 (fun j p => p.1.length = xs.length ∧ p.2 = n + ((11 * i + 3 + j : Nat) : Int)) (fun N2 j ⟨zs, q⟩ hj ⟨hzl, hq⟩ next2 => ?_) (_, m + 1 + 1 + 1) ⟨(updB_len _ _ _ _).trans ((updB_len _ _ _ _).trans ((updB_len _ _ _ _).trans hl)), by show m + 1 + 1 + 1 = _; omega⟩
      simp only at hzl hq next2
      have cs : j = 0 ∨ j = 1 ∨ j = 2 ∨ j = 3 ∨ j = 4 ∨ j = 5 ∨ j = 6 ∨ j = 7 ∨ j = 8 := by omega
      rcases cs with rfl | rfl | rfl | rfl | rfl | rfl | rfl | rfl | rfl
      · show evP E92 G92 _ (lp92 11) (si92 zs q i 0) (rkn92 _ _ 2 N 11 _)
        rw [bi92_0, wrap_id (n := q + 1) (by omega) (by omega)]
        repeat (first | refine br_t (inK_of (by omega) (by omega)) ?_ | refine br_yes ⟨by omega, by omega⟩ ?_)
        exact next2 (by omega) (_, q + 1) ⟨(updB_len _ _ _ _).trans hzl, by show q + 1 = _; omega⟩
      · show evP E92 G92 _ (lp92 11) (si92 zs q i 1) (rkn92 _ _ 2 N 11 _)
        rw [bi92_1, wrap_id (n := q + 1) (by omega) (by omega)]
        repeat (first | refine br_t (inK_of (by omega) (by omega)) ?_ | refine br_yes ⟨by omega, by omega⟩ ?_)
        exact next2 (by omega) (_, q + 1) ⟨(updB_len _ _ _ _).trans hzl, by show q + 1 = _; omega⟩
      · show evP E92 G92 _ (lp92 11) (si92 zs q i 2) (rkn92 _ _ 2 N 11 _)
        rw [bi92_2, wrap_id (n := q + 1) (by omega) (by omega)]
        repeat (first | refine br_t (inK_of (by omega) (by omega)) ?_ | refine br_yes ⟨by omega, by omega⟩ ?_)
        exact next2 (by omega) (_, q + 1) ⟨(updB_len _ _ _ _).trans hzl, by show q + 1 = _; omega⟩
      · show evP E92 G92 _ (lp92 11) (si92 zs q i 3) (rkn92 _ _ 2 N 11 _)
        rw [bi92_3, wrap_id (n := q + 1) (by omega) (by omega)]
        repeat (first | refine br_t (inK_of (by omega) (by omega)) ?_ | refine br_yes ⟨by omega, by omega⟩ ?_)
        exact next2 (by omega) (_, q + 1) ⟨(updB_len _ _ _ _).trans hzl, by show q + 1 = _; omega⟩
      · show evP E92 G92 _ (lp92 11) (si92 zs q i 4) (rkn92 _ _ 2 N 11 _)
        rw [bi92_4, wrap_id (n := q + 1) (by omega) (by omega)]
        repeat (first | refine br_t (inK_of (by omega) (by omega)) ?_ | refine br_yes ⟨by omega, by omega⟩ ?_)
        exact next2 (by omega) (_, q + 1) ⟨(updB_len _ _ _ _).trans hzl, by show q + 1 = _; omega⟩
      · show evP E92 G92 _ (lp92 11) (si92 zs q i 5) (rkn92 _ _ 2 N 11 _)
        rw [bi92_5, wrap_id (n := q + 1) (by omega) (by omega)]
        repeat (first | refine br_t (inK_of (by omega) (by omega)) ?_ | refine br_yes ⟨by omega, by omega⟩ ?_)
        exact next2 (by omega) (_, q + 1) ⟨(updB_len _ _ _ _).trans hzl, by show q + 1 = _; omega⟩
      · show evP E92 G92 _ (lp92 11) (si92 zs q i 6) (rkn92 _ _ 2 N 11 _)
        rw [bi92_6, wrap_id (n := q + 1) (by omega) (by omega)]
        repeat (first | refine br_t (inK_of (by omega) (by omega)) ?_ | refine br_yes ⟨by omega, by omega⟩ ?_)
        exact next2 (by omega) (_, q + 1) ⟨(updB_len _ _ _ _).trans hzl, by show q + 1 = _; omega⟩
      · show evP E92 G92 _ (lp92 11) (si92 zs q i 7) (rkn92 _ _ 2 N 11 _)
        rw [bi92_7, wrap_id (n := q + 1) (by omega) (by omega)]
        repeat (first | refine br_t (inK_of (by omega) (by omega)) ?_ | refine br_yes ⟨by omega, by omega⟩ ?_)
        exact next2 (by omega) (_, q + 1) ⟨(updB_len _ _ _ _).trans hzl, by show q + 1 = _; omega⟩
      · show evP E92 G92 _ (lp92 11) (si92 zs q i 8) (rkn92 _ _ 2 N 11 _)
        rw [bi92_8, wrap_id (n := (i : Int) + 1) (by omega) (by omega)]
        exact next (by omega) (zs, q) ⟨hzl, by show q = _; omega⟩
    · have : i = xs.length := by omega
      exact ⟨_, _, by rw [hm, this]⟩
  · exact h.elim
noncomputable def E30 : Env := Eg.of Tryd.f30
noncomputable def G30 : Gk := gk [(92, g92)]
noncomputable def lp30 (n : Nat) : Code := (loopOf n (codeOf Tryd.f30)).getD .skip
noncomputable def ct30 (L : Lp) (R : Option Res → Prop) (n : Nat) : Kt := contOf E30 G30 L n (codeOf Tryd.f30) (endK E30 Tryd.f30.results.toList R)
noncomputable def rk30 (L : Lp) (R : Option Res → Prop) (n : Nat) (N : St → Prop) : Kt := rk (jof E30 (lp30 n)) N (ct30 L R n)
noncomputable def rkn30 (L : Lp) (R : Option Res → Prop) (n : Nat) (N : St → Prop) (m : Nat) (N2 : St → Prop) : Kt := rk (jof E30 (lp30 m)) N2 (contOf E30 G30 L m (lp30 n) (rk30 L R n N))
noncomputable def LOOPN30 (L : Lp) (R : Option Res → Prop) (n : Nat) (N : St → Prop) (m : Nat) (st : St) : Prop := L (lp30 m) st (contOf E30 G30 L m (lp30 n) (rk30 L R n N))
noncomputable def LOOP30 (L : Lp) (R : Option Res → Prop) (n : Nat) (st : St) : Prop := L (lp30 n) st (ct30 L R n)
theorem hg30 : HG Tryd.prog G30 := (hg_cons h92 hg_nil)
theorem okf30 : Ok Tryd.prog E30 := okg.of Tryd.f30
theorem e30 (L : Lp) (R : Option Res → Prop) (xs : List (Elem kb)) (n : Int) : (bodyP Eg G30 L Tryd.f30 [.agg [.ows 0], .val (.int .i64 n)] [.row kb xs] R) = (
    br (inM n xs.length) (R (some { av := vI (n + (↑(11 * xs.length) : Int)), obs := [], outs := [none] })) False) := by kernel_rfl
theorem h30 : G1Ok Tryd.prog 30 g30 := by
  intro args obs k h
  unfold g30 at h
  split at h
  · rename_i k n xs
    obtain ⟨hp, h⟩ := br_and h
    refine ⟨_, ctr_drop okg hg30 Tryd.func30 (by kernel_rfl) (by kernel_rfl) (by kernel_rfl) fun C => ?_, h⟩
    rw [e30]
    exact br_t hp ⟨_, _, rfl⟩
  · exact h.elim
def g28 : G1
  | [.rsl [.str] xs, .rsl [.str] ys], [], k => br (decide (xs.length ≤ 1048576)) (k ⟨.val (.bool (eqR ks xs ys)), [], []⟩) False
  | _, _, _ => False
noncomputable def E28 : Env := E0.of Tryd.f28
noncomputable def G28 : Gk := gk []
noncomputable def lp28 (n : Nat) : Code := (loopOf n (codeOf Tryd.f28)).getD .skip
noncomputable def ct28 (L : Lp) (R : Option Res → Prop) (n : Nat) : Kt := contOf E28 G28 L n (codeOf Tryd.f28) (endK E28 Tryd.f28.results.toList R)
noncomputable def rk28 (L : Lp) (R : Option Res → Prop) (n : Nat) (N : St → Prop) : Kt := rk (jof E28 (lp28 n)) N (ct28 L R n)
noncomputable def rkn28 (L : Lp) (R : Option Res → Prop) (n : Nat) (N : St → Prop) (m : Nat) (N2 : St → Prop) : Kt := rk (jof E28 (lp28 m)) N2 (contOf E28 G28 L m (lp28 n) (rk28 L R n N))
noncomputable def LOOPN28 (L : Lp) (R : Option Res → Prop) (n : Nat) (N : St → Prop) (m : Nat) (st : St) : Prop := L (lp28 m) st (contOf E28 G28 L m (lp28 n) (rk28 L R n N))
noncomputable def LOOP28 (L : Lp) (R : Option Res → Prop) (n : Nat) (st : St) : Prop := L (lp28 n) st (ct28 L R n)
theorem hg28 : HG Tryd.prog G28 := hg_nil
theorem okf28 : Ok Tryd.prog E28 := ok0.of Tryd.f28
theorem e28 (L : Lp) (R : Option Res → Prop) (xs ys : List (Elem ks)) : (bodyP E0 G28 L Tryd.f28 [.rsl ks xs, .rsl ks ys] [] R) = (
    br ((↑xs.length : Int) != (↑ys.length : Int)) (R (some { av := vB false, obs := [], outs := [] })) (LOOP28 L R 4 { tm := [AV.rsl ks xs, AV.rsl ks ys, vU, vU, vB false, vI 0, vJ, vJ, vJ, vJ, vJ, vJ, vJ, vJ, vJ, vJ, vJ, vJ, vJ, vJ, vJ, vJ, vJ, vJ, vJ, vJ], ob := [], nx := 1000000, ps := [] })) := by kernel_rfl
def st28 (xs ys : List (Elem ks)) (i : Int) : St :=  ⟨[AV.rsl ks xs, AV.rsl ks ys, vU, vU, vB false, .val (.int .i64 i), vJ, vJ, vJ, vJ, vJ, vJ, vJ, vJ, vJ, vJ, vJ, vJ, vJ, vJ, vJ, vJ, vJ, vJ, vJ, vJ], [], 1000000, []⟩
theorem b28 (L : Lp) (R : Option Res → Prop) (N : St → Prop) (xs ys : List (Elem ks)) (i : Int) : (evP E28 G28 L (lp28 4) (st28 xs ys i) (rk28 L R 4 N)) = (
    br (decide (i < (↑xs.length : Int))) (br (decide (0 ≤ i ∧ i < (↑xs.length : Int))) (br (decide (0 ≤ i ∧ i < (↑ys.length : Int))) (br (!strEq (xs.getD i.toNat (edflt ks)).fst (ys.getD i.toNat (edflt ks)).fst) (R (some { av := vB false, obs := [], outs := [] })) (N { tm := [AV.rsl ks xs, AV.rsl ks ys, vU, vU, vB false, vI (IntKind.i64.wrap (i + 1)), vJ, vJ, vJ, vJ, vJ, vJ, vJ, vJ, vJ, vJ, vJ, vJ, vJ, vJ, vJ, vJ, vJ, vJ, vJ, vJ], ob := [], nx := 1000000, ps := [] })) False) False) (R (some { av := vB true, obs := [], outs := [] }))) := by kernel_rfl
theorem h28 : G1Ok Tryd.prog 28 g28 := by
  intro args obs k h
  unfold g28 at h
  split at h
  · rename_i k xs ys
    obtain ⟨hlen, h⟩ := brd h
    refine ⟨_, ctr_fn ok0 hg28 Tryd.func28 (by kernel_rfl) (by kernel_rfl) (by kernel_rfl) fun C => ?_, h⟩
    rw [e28]
    refine br_intro (fun hb => ?_) (fun hb => ?_)
    · show _ = _
      rw [show eqR ks xs ys = false from eqL_len (fun e => by rw [e] at hb; simp at hb)]
    have hl : xs.length = ys.length := by simp at hb; omega
    exact loopAll okf28 hg28 (fun i => st28 xs ys i) xs.length (fun i => elemEq ks (xs.getD i (edflt ks)) (ys.getD i (edflt ks))) (by omega) (fun N i hi hw next fails done => by
      show evP E28 G28 _ (lp28 4) (st28 xs ys i) (rk28 _ _ 4 _)
      rw [b28, hw, Int.toNat_natCast]
      refine br_dec (fun h2 => br_yes ⟨by omega, h2⟩ (br_yes ⟨by omega, by omega⟩ (br_not (fun h3 => ?_) (fun h3 => ?_)))) (fun h2 => ?_)
      · show _ = _
        rw [show eqR ks xs ys = false from (eqL_of hl).trans (fails (by omega) h3)]
      · exact next (by omega) h3
      · show _ = _
        rw [show eqR ks xs ys = true from (eqL_of hl).trans (done (by omega))])
  · exact h.elim
noncomputable def E7 : Env := Eg.of Tryd.f7
noncomputable def G7 : Gk := gk [(24, g24), (25, g25), (26, g26), (27, g25), (28, g28), (29, g29), (30, g30), (31, g31), (32, g32)]
noncomputable def lp7 (n : Nat) : Code := (loopOf n (codeOf Tryd.f7)).getD .skip
noncomputable def ct7 (L : Lp) (R : Option Res → Prop) (n : Nat) : Kt := contOf E7 G7 L n (codeOf Tryd.f7) (endK E7 Tryd.f7.results.toList R)
noncomputable def rk7 (L : Lp) (R : Option Res → Prop) (n : Nat) (N : St → Prop) : Kt := rk (jof E7 (lp7 n)) N (ct7 L R n)
noncomputable def rkn7 (L : Lp) (R : Option Res → Prop) (n : Nat) (N : St → Prop) (m : Nat) (N2 : St → Prop) : Kt := rk (jof E7 (lp7 m)) N2 (contOf E7 G7 L m (lp7 n) (rk7 L R n N))
noncomputable def LOOPN7 (L : Lp) (R : Option Res → Prop) (n : Nat) (N : St → Prop) (m : Nat) (st : St) : Prop := L (lp7 m) st (contOf E7 G7 L m (lp7 n) (rk7 L R n N))
noncomputable def LOOP7 (L : Lp) (R : Option Res → Prop) (n : Nat) (st : St) : Prop := L (lp7 n) st (ct7 L R n)
theorem hg7 : HG Tryd.prog G7 := (hg_cons h24 (hg_cons h25 (hg_cons h26 (hg_cons h27 (hg_cons h28 (hg_cons h29 (hg_cons h30 (hg_cons h31 (hg_cons h32 hg_nil)))))))))
theorem okf7 : Ok Tryd.prog E7 := okg.of Tryd.f7
theorem e7 (L : Lp) (R : Option Res → Prop) (xs : List (Elem kb)) : (bodyP Eg G7 L Tryd.f7 [.agg [.rsl kb xs]] [] R) = (
    br (inBs xs && true) (br (decide (szR 1048576 (szBs xs) < 0)) (R (some { av := vB true, obs := [], outs := [] })) (br (decide (xs.length ≤ 1048576)) (br (smB xs) (br (decide (xs.length ≤ 1048576)) (br (smB xs) (br (decide ((btx xs).length ≤ 1048576)) (br (!eqR ks (btx xs) (btx xs)) (R (some { av := vB false, obs := [], outs := [] })) (br (decide (xs.length ≤ 1048576)) (br (decide (xs.length ≤ 1048576)) (br (!eqR kb xs xs) (R (some { av := vB false, obs := [], outs := [] })) (br (inM 1 xs.length) (br (decide ((btx xs).length ≤ 1048576)) (br (!eqR ks (btx xs) (btx xs)) (R (some { av := vB false, obs := [], outs := [] })) (br (inM 1 (btx xs).length) (br (inM 1 (mkS mkT 1 1 (btx xs).length).length) (br (decide (hdR (hdB ks mkT 1 1 (mkS mkT 1 1 (btx xs).length)) (1 + (↑(1 * (mkS mkT 1 1 (btx xs).length).length) : Int)) < 0)) (R (some { av := vB false, obs := [], outs := [] })) (br (hdR (hdB ks mkT 1 1 (mkS mkT 1 1 (btx xs).length)) (1 + (↑(1 * (mkS mkT 1 1 (btx xs).length).length) : Int)) != 1 + (↑(1 * (btx xs).length) : Int)) (R (some { av := vB false, obs := [], outs := [] })) (br (decide (xs.length ≤ 1048576)) (br (smB xs) (br (decide ((btx xs).length ≤ 1048576)) (br (!eqR ks (btx xs) (btx xs)) (R (some { av := vB false, obs := [], outs := [] })) (br (inM 1 (mkS mkT 1 1 (btx xs).length).length) (br (decide (hdR (hdB ks mkT 1 1 (mkS mkT 1 1 (btx xs).length)) (1 + (↑(1 * (mkS mkT 1 1 (btx xs).length).length) : Int)) < 0)) (R (some { av := vB false, obs := [], outs := [] })) (br (hdR (hdB ks mkT 1 1 (mkS mkT 1 1 (btx xs).length)) (1 + (↑(1 * (mkS mkT 1 1 (btx xs).length).length) : Int)) != 1 + (↑(1 * (btx xs).length) : Int)) (R (some { av := vB false, obs := [], outs := [] })) (R (some { av := vB true, obs := [], outs := [] })))) False)) False) False) False))) False) False)) False) False)) False) False)) False) False) False) False) False)) False) := by kernel_rfl
theorem btx_len (xs : List (Elem kb)) : (btx xs).length ≤ 1048576 := by
  cases h : bookOk xs with
  | false => rw [btx_f h]; exact Nat.zero_le _
  | true =>
    have h6 := bok_len h
    rw [btx_t h, ← preO_all]
    have := preO_len xs xs.length 0
    omega
theorem hd_ge {l : Nat} : ¬ (hdR true (1 + ((1 * l : Nat) : Int)) < 0) := by
  show ¬ (1 + ((1 * l : Nat) : Int) < 0)
  omega
theorem hd_ne {l : Nat} : (hdR true (1 + ((1 * l : Nat) : Int)) != 1 + ((1 * l : Nat) : Int)) = false := by
  show ((1 + ((1 * l : Nat) : Int)) != 1 + ((1 * l : Nat) : Int)) = false
  simp
theorem c7 (xs : List (Elem kb)) (hx : xs.length ≤ maxLen ∧ ∀ e ∈ xs, elemOk kb e) : Ctr Tryd.prog 7 [.agg [.rsl kb xs]] [] ⟨.val (.bool true), [], []⟩ := by
  refine ctr_fn okg hg7 Tryd.func7 (by kernel_rfl) (by kernel_rfl) (by kernel_rfl) fun C => ?_
  rw [e7, inBs_of hx]
  refine br_t rfl (br_dec (fun _ => rfl) (fun h1 => ?_))
  have h1' := szR_ge0 h1
  have hs : smB xs = true := smB_of (by omega)
  have hn := smB_len hs
  have hl := btx_len xs
  rw [hs, eqR_self, eqR_self, mkS_len, hdB_mk, inM_of hl, inM_of hn]
  exact br_yes hn (br_t rfl (br_yes hn (br_t rfl (br_yes hl (br_f rfl (br_yes hn (br_yes hn (br_f rfl (br_t rfl (br_yes hl (br_f rfl (br_t rfl (br_t rfl (br_no hd_ge (br_f hd_ne (br_yes hn (br_t rfl (br_yes hl (br_f rfl (br_t rfl (br_no hd_ge (br_f hd_ne rfl))))))))))))))))))))))
end Go.Proofs.YtljilcingbohkabDoor.Ev
