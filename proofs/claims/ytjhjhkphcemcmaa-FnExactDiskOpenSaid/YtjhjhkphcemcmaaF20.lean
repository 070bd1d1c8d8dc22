/- The law of DiskOpen. -/
import Derived.Test.YtjhjhkphcemcmaaF9
namespace Go.Proofs.Ytjhjhkphcemcmaa.Ev
open Go
set_option linter.unusedVariables false
set_option linter.unusedSimpArgs false
set_option maxRecDepth 100000
def E1 : Env := ⟨tt, [38, 48, 80, 81, 128], E0.eqs, .skip, []⟩
theorem ok1 : Ok Try.prog E1 := ⟨ttOK, eqsOK, by kernel_rfl⟩
def dg (n : Int) : ByteArray := strOf [(IntKind.u8.wrap (IntKind.i64.wrap (48 + n.tmod 10)), ())]
def mtN (n : Nat) (o : ByteArray) : ByteArray := if h : n = 0 then o else mtN (n / 10) (dg n ++ o)
  termination_by n
  decreasing_by omega
def mt (n : Int) : ByteArray := match decide (n ≤ 0) with
  | true => ⟨#[109, 48]⟩
  | false => ⟨#[109]⟩ ++ mtN n.toNat ByteArray.empty
def inK (n : Int) : Bool := decide (0 ≤ n ∧ n ≤ 1099511627776)
def g129 : G1
  | [.val (.int .i64 n)], [], k => br (inK n) (k ⟨.val (.string (mt n)), [], []⟩) False
  | _, _, _ => False
theorem dg_size (n : Int) : (dg n).size = 1 := rfl
noncomputable def E129 : Env := E1.of Try.f129
noncomputable def G129 : Gk := gk []
noncomputable def lp129 (n : Nat) : Code := (loopOf n (codeOf Try.f129)).getD .skip
noncomputable def ct129 (L : Lp) (R : Option Res → Prop) (n : Nat) : Kt := contOf E129 G129 L n (codeOf Try.f129) (endK E129 Try.f129.results.toList R)
noncomputable def rk129 (L : Lp) (R : Option Res → Prop) (n : Nat) (N : St → Prop) : Kt := rk (jof E129 (lp129 n)) N (ct129 L R n)
noncomputable def LOOP129 (L : Lp) (R : Option Res → Prop) (n : Nat) (st : St) : Prop := L (lp129 n) st (ct129 L R n)
theorem hg129 : HG Try.prog G129 := hg_nil
theorem okf129 : Ok Try.prog E129 := ok1.of Try.f129
theorem e129 (L : Lp) (R : Option Res → Prop) (n : Int) : (bodyP E1 G129 L Try.f129 [.val (.int .i64 n)] [] R) = (
    br (decide (n ≤ 0))
      (R (some { av := AV.val (Value.string { data := #[OfNat.ofNat 109, OfNat.ofNat 48] }), obs := [], outs := [] }))
      (LOOP129 L R 4
        {
          tm :=
            [AV.val (Value.int IntKind.i64 n), AV.val (Value.tuple #[]), AV.val (Value.string { data := #[] }),
              AV.val (Value.string { data := #[] }), AV.val (Value.int IntKind.i64 n), AV.val (Value.bool (decide (n ≤ 0))),
              AV.junk, AV.junk, AV.junk, AV.junk, AV.junk, AV.junk, AV.junk, AV.junk, AV.junk, AV.junk, AV.junk, AV.junk,
              AV.val (Value.tuple #[]), AV.val (Value.tuple #[])],
          ob := [], nx := 1000000, ps := [] })) := by kernel_rfl
def st129 (n m : Int) (o : ByteArray) : St :=
  ⟨[.val (.int .i64 m), AV.val (Value.tuple #[]), AV.val (Value.string { data := #[] }), .val (.string o), AV.val (Value.int IntKind.i64 n), AV.val (Value.bool (decide (n ≤ 0))), AV.junk, AV.junk, AV.junk, AV.junk, AV.junk, AV.junk, AV.junk, AV.junk, AV.junk, AV.junk, AV.junk, AV.junk, AV.val (Value.tuple #[]), AV.val (Value.tuple #[])],
    [], 1000000, []⟩
theorem b129 (L : Lp) (R : Option Res → Prop) (N : St → Prop) (n m : Int) (o : ByteArray) : (evP E129 G129 L (lp129 4) (st129 n m o) (rk129 L R 4 N)) = (
    br (decide (m > 0))
      (br (decide ((strOf [(IntKind.u8.wrap (IntKind.i64.wrap (48 + m.tmod 10)), ())]).size + o.size ≤ 9223372036854775807))
        (N
          {
            tm :=
              [AV.val (Value.int IntKind.i64 (IntKind.i64.wrap (m.tdiv 10))), AV.val (Value.tuple #[]),
                AV.val (Value.string { data := #[] }),
                AV.val (Value.string (strOf [(IntKind.u8.wrap (IntKind.i64.wrap (48 + m.tmod 10)), ())] ++ o)),
                AV.val (Value.int IntKind.i64 n), AV.val (Value.bool (decide (n ≤ 0))), AV.junk, AV.junk, AV.junk, AV.junk,
                AV.junk, AV.junk, AV.junk, AV.junk, AV.junk, AV.junk, AV.junk, AV.junk, AV.val (Value.tuple #[]),
                AV.val (Value.tuple #[])],
            ob := [], nx := 1000000, ps := [] })
        False)
      (br (decide (1 + o.size ≤ 9223372036854775807))
        (R (some { av := AV.val (Value.string ({ data := #[OfNat.ofNat 109] } ++ o)), obs := [], outs := [] })) False)) := by kernel_rfl
theorem h129 : G1Ok Try.prog 129 g129 := by
  intro args obs k h
  unfold g129 at h
  split at h
  · rename_i k n
    obtain ⟨hn, h⟩ := br_and h
    simp only [inK, decide_eq_true_eq] at hn
    obtain ⟨n, rfl⟩ : ∃ m : Nat, n = m := ⟨n.toNat, by omega⟩
    refine ⟨_, ctr_fn ok1 hg129 Try.func129 (by kernel_rfl) (by kernel_rfl) (by kernel_rfl) fun C => ?_, h⟩
    rw [e129]
    refine br_intro (fun h1 => ?_) (fun h1 => ?_)
    · show _ = _
      unfold mt
      rw [h1]
    have hm : mt n = ⟨#[109]⟩ ++ mtN n ByteArray.empty := by
      unfold mt
      rw [h1]
      rfl
    have h1' := of_decide_eq_false h1
    refine loopR okf129 hg129 (ι := {p : Nat × ByteArray // p.2.size + p.1 ≤ n ∧ mtN p.1 p.2 = mtN n ByteArray.empty}) (fun p => st129 n p.1.1 p.1.2) (fun p => p.1.1) (fun ⟨(m, o), hs, he⟩ => ?_) ⟨(n, ByteArray.empty), by show ByteArray.empty.size + n ≤ n; have : ByteArray.empty.size = 0 := rfl; omega, rfl⟩
    show evP E129 G129 _ (lp129 4) (st129 n m o) (rk129 _ _ 4 _)
    simp only at hs he
    rw [b129]
    refine br_dec (fun h2 => ?_) (fun h2 => ?_)
    · have hd : (strOf [(IntKind.u8.wrap (IntKind.i64.wrap (48 + (m : Int).tmod 10)), ())]).size = 1 := dg_size m
      refine br_yes (by rw [hd]; omega) ?_
      have hq : (m : Int).tdiv 10 = ((m / 10 : Nat) : Int) := rfl
      rw [hq, wrap_id (by omega) (by omega)]
      refine ⟨⟨(m / 10, dg m ++ o), ?_, ?_⟩, rfl, by show m / 10 < m; omega⟩
      · show (dg m ++ o).size + m / 10 ≤ n
        rw [ByteArray.size_append, dg_size]
        omega
      · show mtN (m / 10) (dg m ++ o) = _
        rw [← he]
        conv => rhs; rw [mtN]
        rw [dif_neg (by omega)]
    · refine br_yes (by omega) ?_
      show _ = _
      have : m = 0 := by omega
      subst this
      rw [hm, ← he, mtN]
      rfl
  · exact h.elim
def mkS {α : Type} (f : Int → α) (w : Nat) (k : Int) (n : Nat) : List α := (List.range n).map fun i => f (k + ((w * i : Nat) : Int))
def mkT (k : Int) : Elem ks := (mt k, ())
def mkDl (k : Int) : Elem kl := (k, k + 1, mt (k + 2), ())
def mk3 (k : Int) : Elem k3 := (k, k + 1, k + 2, ())
def hdR (b : Bool) (k : Int) : Int := match b with
  | true => k
  | false => -1
def hdB (cs : List CK) (f : Int → Elem cs) (w : Nat) (k : Int) (xs : List (Elem cs)) : Bool := allB xs.length fun i => elemEq cs (xs.getD i (edflt cs)) (f (k + ((w * i : Nat) : Int)))
def inM (n : Int) (l : Nat) : Bool := decide (0 ≤ n ∧ n ≤ 549755813888 ∧ (l : Int) ≤ 1073741824)
theorem mkS_getD {α : Type} (f : Int → α) (w : Nat) (k : Int) (n : Nat) (d : α) {i : Nat} (hi : i < n) : (mkS f w k n).getD i d = f (k + ((w * i : Nat) : Int)) := by
  unfold mkS
  rw [List.getD_eq_getElem?_getD, List.getElem?_map, List.getElem?_range hi]
  rfl
theorem getD_set {α : Type} (ys : List α) (a d : α) {i : Nat} (h : i < ys.length) : (ys.set i a).getD i d = a := by
  rw [List.getD_eq_getElem?_getD, List.getElem?_set_self h]
  rfl
theorem inK_of {n : Int} (h1 : 0 ≤ n) (h2 : n ≤ 1099511627776) : inK n = true := by
  unfold inK
  exact decide_eq_true ⟨h1, h2⟩
def g128 : G1
  | [.ows 0, .val (.int .i64 n)], [.row [.str] xs], k => br (inM n xs.length) (k ⟨.val (.int .i64 (n + ((1 * xs.length : Nat) : Int))), [.row ks (mkS mkT 1 n xs.length)], [some 0]⟩) False
  | _, _, _ => False
noncomputable def E128 : Env := E1.of Try.f128
noncomputable def G128 : Gk := gk [(129, g129)]
noncomputable def lp128 (n : Nat) : Code := (loopOf n (codeOf Try.f128)).getD .skip
noncomputable def ct128 (L : Lp) (R : Option Res → Prop) (n : Nat) : Kt := contOf E128 G128 L n (codeOf Try.f128) (endK E128 Try.f128.results.toList R)
noncomputable def rk128 (L : Lp) (R : Option Res → Prop) (n : Nat) (N : St → Prop) : Kt := rk (jof E128 (lp128 n)) N (ct128 L R n)
noncomputable def LOOP128 (L : Lp) (R : Option Res → Prop) (n : Nat) (st : St) : Prop := L (lp128 n) st (ct128 L R n)
theorem hg128 : HG Try.prog G128 := (hg_cons h129 hg_nil)
theorem okf128 : Ok Try.prog E128 := ok1.of Try.f128
theorem e128 (L : Lp) (R : Option Res → Prop) (xs : List (Elem ks)) (n : Int) : (bodyP E1 G128 L Try.f128 [.ows 0, .val (.int .i64 n)] [.row ks xs] R) = (
    LOOP128 L R 2
      {
        tm :=
          [AV.ows 0, AV.val (Value.int IntKind.i64 n), AV.val (Value.tuple #[]), AV.val (Value.tuple #[]),
            AV.val (Value.int IntKind.i64 0), AV.val (Value.int IntKind.i64 0), AV.junk, AV.junk, AV.junk, AV.junk, AV.junk,
            AV.junk, AV.junk, AV.junk, AV.junk, AV.junk, AV.junk, AV.junk, AV.junk, AV.val (Value.tuple #[])],
        ob := [(0, AO.row [CK.str] xs)], nx := 1000000, ps := [some 0] }) := by kernel_rfl
def st128 (xs : List (Elem ks)) (n i : Int) : St :=
  ⟨[AV.ows 0, .val (.int .i64 n), AV.val (Value.tuple #[]), AV.val (Value.tuple #[]), AV.val (Value.int IntKind.i64 0), .val (.int .i64 i), AV.junk, AV.junk, AV.junk, AV.junk, AV.junk, AV.junk, AV.junk, AV.junk, AV.junk, AV.junk, AV.junk, AV.junk, AV.junk, AV.val (Value.tuple #[])],
    [(0, .row ks xs)], 1000000, [some 0]⟩
theorem b128 (L : Lp) (R : Option Res → Prop) (N : St → Prop) (xs : List (Elem ks)) (n i : Int) : (evP E128 G128 L (lp128 2) (st128 xs n i) (rk128 L R 2 N)) = (
    br (decide (i < (↑xs.length : Int)))
      (br (inK n)
        (br (decide (0 ≤ i ∧ i < (↑xs.length : Int)))
          (N
            {
              tm :=
                [AV.ows 0, AV.val (Value.int IntKind.i64 (IntKind.i64.wrap (n + 1))), AV.val (Value.tuple #[]),
                  AV.val (Value.tuple #[]), AV.val (Value.int IntKind.i64 0),
                  AV.val (Value.int IntKind.i64 (IntKind.i64.wrap (i + 1))), AV.junk, AV.junk, AV.junk, AV.junk, AV.junk,
                  AV.junk, AV.junk, AV.junk, AV.junk, AV.junk, AV.junk, AV.junk, AV.junk, AV.val (Value.tuple #[])],
              ob := [(0, AO.row [CK.str] (xs.set i.toNat (mt n, ())))], nx := 1000000, ps := [some 0] })
          False)
        False)
      (R (some { av := AV.val (Value.int IntKind.i64 n), obs := [AO.row [CK.str] xs], outs := [some 0] }))) := by kernel_rfl
theorem h128 : G1Ok Try.prog 128 g128 := by
  intro args obs k h
  unfold g128 at h
  split at h
  · rename_i k n xs
    obtain ⟨hp, h⟩ := br_and h
    simp only [inM, decide_eq_true_eq] at hp
    refine ⟨_, ctr_fn ok1 hg128 Try.func128 (by kernel_rfl) (by kernel_rfl) (by kernel_rfl) fun C => ?_, h⟩
    rw [e128]
    refine loopUp okf128 hg128 (fun i (p : List (Elem ks) × Int) => st128 p.1 p.2 i) xs.length (fun i p => Cp (mkS mkT 1 n xs.length) i p.1 ∧ p.2 = n + ((1 * i : Nat) : Int)) (fun N i ⟨ys, m⟩ hi ⟨hc, hm⟩ next => ?_) (xs, n) ⟨⟨by simp [mkS], by simp⟩, by simp⟩
    show evP E128 G128 _ (lp128 2) (st128 ys m i) (rk128 _ _ 2 _)
    have hl : ys.length = xs.length := by
      have := hc.len
      simpa [mkS] using this
    simp only at hm hc next
    rw [b128, wrap_id (n := (i : Int) + 1) (by omega) (by omega), Int.toNat_natCast, wrap_id (n := m + 1) (by omega) (by omega)]
    refine br_dec (fun h2 => ?_) (fun h2 => ?_)
    · have hi' : i < xs.length := by omega
      have gs : ∀ a, (ys.set i a).getD i (edflt ks) = a := fun a => getD_set ys a _ (by omega)
      have hn := hc.next (i := i) (d := edflt ks) (by simpa [mkS] using hi')
      rw [mkS_getD _ _ _ _ _ hi', ← hm] at hn
      skip
      refine br_t (inK_of (by omega) (by omega)) (br_yes ⟨by omega, by omega⟩ (?_))
      have e : m + 1 = n + ((1 * (i + 1) : Nat) : Int) := by omega
      refine next hi' (ys.set i (mkT m), m + 1) ⟨hn, e⟩
    · have hi' : i = xs.length := by omega
      show _ = _
      rw [hc.done (by simp [mkS]; omega), hm, hi']
  · exact h.elim
def g130 : G1
  | [.rsl [.str] xs, .val (.int .i64 n)], [], k => br (inM n xs.length) (k ⟨.val (.int .i64 (hdR (hdB ks mkT 1 n xs) (n + ((1 * xs.length : Nat) : Int)))), [], []⟩) False
  | _, _, _ => False
noncomputable def E130 : Env := E1.of Try.f130
noncomputable def G130 : Gk := gk [(129, g129)]
noncomputable def lp130 (n : Nat) : Code := (loopOf n (codeOf Try.f130)).getD .skip
noncomputable def ct130 (L : Lp) (R : Option Res → Prop) (n : Nat) : Kt := contOf E130 G130 L n (codeOf Try.f130) (endK E130 Try.f130.results.toList R)
noncomputable def rk130 (L : Lp) (R : Option Res → Prop) (n : Nat) (N : St → Prop) : Kt := rk (jof E130 (lp130 n)) N (ct130 L R n)
noncomputable def LOOP130 (L : Lp) (R : Option Res → Prop) (n : Nat) (st : St) : Prop := L (lp130 n) st (ct130 L R n)
theorem hg130 : HG Try.prog G130 := (hg_cons h129 hg_nil)
theorem okf130 : Ok Try.prog E130 := ok1.of Try.f130
theorem e130 (L : Lp) (R : Option Res → Prop) (xs : List (Elem ks)) (n : Int) : (bodyP E1 G130 L Try.f130 [.rsl ks xs, .val (.int .i64 n)] [] R) = (
    LOOP130 L R 2
      {
        tm :=
          [AV.rsl [CK.str] xs, AV.val (Value.int IntKind.i64 n), AV.val (Value.tuple #[]), AV.val (Value.tuple #[]),
            AV.val (Value.int IntKind.i64 0), AV.val (Value.int IntKind.i64 0), AV.junk, AV.junk, AV.junk, AV.junk, AV.junk,
            AV.junk, AV.junk, AV.junk, AV.junk, AV.junk, AV.junk, AV.junk, AV.junk, AV.junk, AV.junk,
            AV.val (Value.tuple #[])],
        ob := [], nx := 1000000, ps := [] }) := by kernel_rfl
def st130 (xs : List (Elem ks)) (n i : Int) : St :=
  ⟨[AV.rsl [CK.str] xs, .val (.int .i64 n), AV.val (Value.tuple #[]), AV.val (Value.tuple #[]), AV.val (Value.int IntKind.i64 0), .val (.int .i64 i), AV.junk, AV.junk, AV.junk, AV.junk, AV.junk, AV.junk, AV.junk, AV.junk, AV.junk, AV.junk, AV.junk, AV.junk, AV.junk, AV.junk, AV.junk, AV.val (Value.tuple #[])],
    [], 1000000, []⟩
theorem b130 (L : Lp) (R : Option Res → Prop) (N : St → Prop) (xs : List (Elem ks)) (n i : Int) : (evP E130 G130 L (lp130 2) (st130 xs n i) (rk130 L R 2 N)) = (
    br (decide (i < (↑xs.length : Int)))
      (br (decide (0 ≤ i ∧ i < (↑xs.length : Int)))
        (br (inK n)
          (br (!strEq (xs.getD i.toNat (edflt [CK.str])).fst (mt n))
            (R (some { av := AV.val (Value.int IntKind.i64 (-1)), obs := [], outs := [] }))
            (N
              {
                tm :=
                  [AV.rsl [CK.str] xs, AV.val (Value.int IntKind.i64 (IntKind.i64.wrap (n + 1))), AV.val (Value.tuple #[]),
                    AV.val (Value.tuple #[]), AV.val (Value.int IntKind.i64 0),
                    AV.val (Value.int IntKind.i64 (IntKind.i64.wrap (i + 1))), AV.junk, AV.junk, AV.junk, AV.junk, AV.junk,
                    AV.junk, AV.junk, AV.junk, AV.junk, AV.junk, AV.junk, AV.junk, AV.junk, AV.junk, AV.junk,
                    AV.val (Value.tuple #[])],
                ob := [], nx := 1000000, ps := [] }))
          False)
        False)
      (R (some { av := AV.val (Value.int IntKind.i64 n), obs := [], outs := [] }))) := by kernel_rfl
theorem h130 : G1Ok Try.prog 130 g130 := by
  intro args obs k h
  unfold g130 at h
  split at h
  · rename_i k xs n
    obtain ⟨hp, h⟩ := br_and h
    simp only [inM, decide_eq_true_eq] at hp
    refine ⟨_, ctr_fn ok1 hg130 Try.func130 (by kernel_rfl) (by kernel_rfl) (by kernel_rfl) fun C => ?_, h⟩
    rw [e130]
    refine loopUp okf130 hg130 (fun i (m : Int) => st130 xs m i) xs.length (fun i m => (∀ j, j < i → elemEq ks (xs.getD j (edflt ks)) (mkT (n + ((1 * j : Nat) : Int))) = true) ∧ m = n + ((1 * i : Nat) : Int)) (fun N i m hi ⟨hall, hm⟩ next => ?_) n ⟨fun j hj => by omega, by simp⟩
    show evP E130 G130 _ (lp130 2) (st130 xs m i) (rk130 _ _ 2 _)
    rw [b130, wrap_id (n := (i : Int) + 1) (by omega) (by omega), Int.toNat_natCast, wrap_id (n := m + 1) (by omega) (by omega)]
    have he : elemEq ks (xs.getD i (edflt ks)) (mkT (n + ((1 * i : Nat) : Int))) = ((strEq (xs.getD i (edflt ks)).1 (mt m))) := by
      rw [← hm]
      unfold mkT
      rfl
    refine br_dec (fun h2 => ?_) (fun h2 => ?_)
    · have fails : elemEq ks (xs.getD i (edflt ks)) (mkT (n + ((1 * i : Nat) : Int))) = false → (-1 : Int) = hdR (hdB ks mkT 1 n xs) (n + ((1 * xs.length : Nat) : Int)) := by
        intro hf
        rw [show hdB ks mkT 1 n xs = false from allB_f (i := i) (by omega) hf]
        rfl
      refine br_yes ⟨by omega, by omega⟩ (br_t (inK_of (by omega) (by omega)) (br_not (fun q0 => ?_) (fun q0 => ?_)))
      · show _ = _
        rw [fails (by rw [he, q0] <;> rfl)]
      · refine next (by omega) _ ⟨fun j hj => ?_, by omega⟩
        by_cases e : j < i
        · exact hall j e
        · have : j = i := by omega
          rw [this, he, q0]
    · have hi' : i = xs.length := by omega
      show _ = _
      rw [show hdB ks mkT 1 n xs = true from allB_t fun j hj => hall j (by omega), hm, hi']
      rfl
  · exact h.elim
def g81 : G1
  | [.ows 0, .val (.int .i64 n)], [.row [.int .i64, .int .i64, .str] xs], k => br (inM n xs.length) (k ⟨.val (.int .i64 (n + ((3 * xs.length : Nat) : Int))), [.row kl (mkS mkDl 3 n xs.length)], [some 0]⟩) False
  | _, _, _ => False
noncomputable def E81 : Env := E1.of Try.f81
noncomputable def G81 : Gk := gk [(129, g129)]
noncomputable def lp81 (n : Nat) : Code := (loopOf n (codeOf Try.f81)).getD .skip
noncomputable def ct81 (L : Lp) (R : Option Res → Prop) (n : Nat) : Kt := contOf E81 G81 L n (codeOf Try.f81) (endK E81 Try.f81.results.toList R)
noncomputable def rk81 (L : Lp) (R : Option Res → Prop) (n : Nat) (N : St → Prop) : Kt := rk (jof E81 (lp81 n)) N (ct81 L R n)
noncomputable def LOOP81 (L : Lp) (R : Option Res → Prop) (n : Nat) (st : St) : Prop := L (lp81 n) st (ct81 L R n)
theorem hg81 : HG Try.prog G81 := (hg_cons h129 hg_nil)
theorem okf81 : Ok Try.prog E81 := ok1.of Try.f81
theorem e81 (L : Lp) (R : Option Res → Prop) (xs : List (Elem kl)) (n : Int) : (bodyP E1 G81 L Try.f81 [.ows 0, .val (.int .i64 n)] [.row kl xs] R) = (
    LOOP81 L R 2
      {
        tm :=
          [AV.ows 0, AV.val (Value.int IntKind.i64 n), AV.val (Value.tuple #[]), AV.val (Value.tuple #[]),
            AV.val (Value.int IntKind.i64 0), AV.val (Value.int IntKind.i64 0), AV.junk, AV.junk, AV.junk, AV.junk, AV.junk,
            AV.junk, AV.junk, AV.junk, AV.junk, AV.junk, AV.junk, AV.junk, AV.junk, AV.junk, AV.junk, AV.junk, AV.junk,
            AV.junk, AV.junk, AV.junk, AV.junk, AV.junk, AV.junk, AV.junk, AV.junk, AV.junk, AV.junk, AV.junk,
            AV.val (Value.tuple #[])],
        ob := [(0, AO.row [CK.int IntKind.i64, CK.int IntKind.i64, CK.str] xs)], nx := 1000000, ps := [some 0] }) := by kernel_rfl
def st81 (xs : List (Elem kl)) (n i : Int) : St :=
  ⟨[AV.ows 0, .val (.int .i64 n), AV.val (Value.tuple #[]), AV.val (Value.tuple #[]), AV.val (Value.int IntKind.i64 0), .val (.int .i64 i), AV.junk, AV.junk, AV.junk, AV.junk, AV.junk, AV.junk, AV.junk, AV.junk, AV.junk, AV.junk, AV.junk, AV.junk, AV.junk, AV.junk, AV.junk, AV.junk, AV.junk, AV.junk, AV.junk, AV.junk, AV.junk, AV.junk, AV.junk, AV.junk, AV.junk, AV.junk, AV.junk, AV.junk, AV.val (Value.tuple #[])],
    [(0, .row kl xs)], 1000000, [some 0]⟩
theorem b81 (L : Lp) (R : Option Res → Prop) (N : St → Prop) (xs : List (Elem kl)) (n i : Int) : (evP E81 G81 L (lp81 2) (st81 xs n i) (rk81 L R 2 N)) = (
    br (decide (i < (↑xs.length : Int)))
      (br (decide (0 ≤ i ∧ i < (↑xs.length : Int)))
        (br
          (decide
            (0 ≤ i ∧
              i <
                (↑(xs.set i.toNat
                        (n, (xs.getD i.toNat (edflt [CK.int IntKind.i64, CK.int IntKind.i64, CK.str])).snd)).length :
                  Int)))
          (br (inK (IntKind.i64.wrap (IntKind.i64.wrap (n + 1) + 1)))
            (br
              (decide
                (0 ≤ i ∧
                  i <
                    (↑((xs.set i.toNat
                                (n, (xs.getD i.toNat (edflt [CK.int IntKind.i64, CK.int IntKind.i64, CK.str])).snd)).set
                            i.toNat
                            (((xs.set i.toNat
                                      (n,
                                        (xs.getD i.toNat
                                            (edflt [CK.int IntKind.i64, CK.int IntKind.i64, CK.str])).snd)).getD
                                  i.toNat (edflt [CK.int IntKind.i64, CK.int IntKind.i64, CK.str])).fst,
                              IntKind.i64.wrap (n + 1),
                              ((xs.set i.toNat
                                        (n,
                                          (xs.getD i.toNat
                                              (edflt [CK.int IntKind.i64, CK.int IntKind.i64, CK.str])).snd)).getD
                                    i.toNat (edflt [CK.int IntKind.i64, CK.int IntKind.i64, CK.str])).snd.snd)).length :
                      Int)))
              (N
                {
                  tm :=
                    [AV.ows 0,
                      AV.val
                        (Value.int IntKind.i64 (IntKind.i64.wrap (IntKind.i64.wrap (IntKind.i64.wrap (n + 1) + 1) + 1))),
                      AV.val (Value.tuple #[]), AV.val (Value.tuple #[]), AV.val (Value.int IntKind.i64 0),
                      AV.val (Value.int IntKind.i64 (IntKind.i64.wrap (i + 1))), AV.junk, AV.junk, AV.junk, AV.junk,
                      AV.junk, AV.junk, AV.junk, AV.junk, AV.junk, AV.junk, AV.junk, AV.junk, AV.junk, AV.junk, AV.junk,
                      AV.junk, AV.junk, AV.junk, AV.junk, AV.junk, AV.junk, AV.junk, AV.junk, AV.junk, AV.junk, AV.junk,
                      AV.junk, AV.junk, AV.val (Value.tuple #[])],
                  ob :=
                    [(0,
                        AO.row [CK.int IntKind.i64, CK.int IntKind.i64, CK.str]
                          (((xs.set i.toNat
                                    (n, (xs.getD i.toNat (edflt [CK.int IntKind.i64, CK.int IntKind.i64, CK.str])).snd)).set
                                i.toNat
                                (((xs.set i.toNat
                                          (n,
                                            (xs.getD i.toNat
                                                (edflt [CK.int IntKind.i64, CK.int IntKind.i64, CK.str])).snd)).getD
                                      i.toNat (edflt [CK.int IntKind.i64, CK.int IntKind.i64, CK.str])).fst,
                                  IntKind.i64.wrap (n + 1),
                                  ((xs.set i.toNat
                                            (n,
                                              (xs.getD i.toNat
                                                  (edflt [CK.int IntKind.i64, CK.int IntKind.i64, CK.str])).snd)).getD
                                        i.toNat (edflt [CK.int IntKind.i64, CK.int IntKind.i64, CK.str])).snd.snd)).set
                            i.toNat
                            ((((xs.set i.toNat
                                          (n,
                                            (xs.getD i.toNat
                                                (edflt [CK.int IntKind.i64, CK.int IntKind.i64, CK.str])).snd)).set
                                      i.toNat
                                      (((xs.set i.toNat
                                                (n,
                                                  (xs.getD i.toNat
                                                      (edflt [CK.int IntKind.i64, CK.int IntKind.i64, CK.str])).snd)).getD
                                            i.toNat (edflt [CK.int IntKind.i64, CK.int IntKind.i64, CK.str])).fst,
                                        IntKind.i64.wrap (n + 1),
                                        ((xs.set i.toNat
                                                  (n,
                                                    (xs.getD i.toNat
                                                        (edflt [CK.int IntKind.i64, CK.int IntKind.i64, CK.str])).snd)).getD
                                              i.toNat
                                              (edflt [CK.int IntKind.i64, CK.int IntKind.i64, CK.str])).snd.snd)).getD
                                  i.toNat (edflt [CK.int IntKind.i64, CK.int IntKind.i64, CK.str])).fst,
                              (((xs.set i.toNat
                                            (n,
                                              (xs.getD i.toNat
                                                  (edflt [CK.int IntKind.i64, CK.int IntKind.i64, CK.str])).snd)).set
                                        i.toNat
                                        (((xs.set i.toNat
                                                  (n,
                                                    (xs.getD i.toNat
                                                        (edflt [CK.int IntKind.i64, CK.int IntKind.i64, CK.str])).snd)).getD
                                              i.toNat (edflt [CK.int IntKind.i64, CK.int IntKind.i64, CK.str])).fst,
                                          IntKind.i64.wrap (n + 1),
                                          ((xs.set i.toNat
                                                    (n,
                                                      (xs.getD i.toNat
                                                          (edflt
                                                            [CK.int IntKind.i64, CK.int IntKind.i64, CK.str])).snd)).getD
                                                i.toNat
                                                (edflt [CK.int IntKind.i64, CK.int IntKind.i64, CK.str])).snd.snd)).getD
                                    i.toNat (edflt [CK.int IntKind.i64, CK.int IntKind.i64, CK.str])).snd.fst,
                              mt (IntKind.i64.wrap (IntKind.i64.wrap (n + 1) + 1)), ())))],
                  nx := 1000000, ps := [some 0] })
              False)
            False)
          False)
        False)
      (R
        (some
          { av := AV.val (Value.int IntKind.i64 n), obs := [AO.row [CK.int IntKind.i64, CK.int IntKind.i64, CK.str] xs],
            outs := [some 0] }))) := by kernel_rfl
theorem h81 : G1Ok Try.prog 81 g81 := by
  intro args obs k h
  unfold g81 at h
  split at h
  · rename_i k n xs
    obtain ⟨hp, h⟩ := br_and h
    simp only [inM, decide_eq_true_eq] at hp
    refine ⟨_, ctr_fn ok1 hg81 Try.func81 (by kernel_rfl) (by kernel_rfl) (by kernel_rfl) fun C => ?_, h⟩
    rw [e81]
    refine loopUp okf81 hg81 (fun i (p : List (Elem kl) × Int) => st81 p.1 p.2 i) xs.length (fun i p => Cp (mkS mkDl 3 n xs.length) i p.1 ∧ p.2 = n + ((3 * i : Nat) : Int)) (fun N i ⟨ys, m⟩ hi ⟨hc, hm⟩ next => ?_) (xs, n) ⟨⟨by simp [mkS], by simp⟩, by simp⟩
    show evP E81 G81 _ (lp81 2) (st81 ys m i) (rk81 _ _ 2 _)
    have hl : ys.length = xs.length := by
      have := hc.len
      simpa [mkS] using this
    simp only at hm hc next
    rw [b81, wrap_id (n := (i : Int) + 1) (by omega) (by omega), Int.toNat_natCast, wrap_id (n := m + 1) (by omega) (by omega), wrap_id (n := m + 1 + 1) (by omega) (by omega), wrap_id (n := m + 1 + 1 + 1) (by omega) (by omega)]
    refine br_dec (fun h2 => ?_) (fun h2 => ?_)
    · have hi' : i < xs.length := by omega
      have gs : ∀ a, (ys.set i a).getD i (edflt kl) = a := fun a => getD_set ys a _ (by omega)
      have hn := hc.next (i := i) (d := edflt kl) (by simpa [mkS] using hi')
      rw [mkS_getD _ _ _ _ _ hi', ← hm] at hn
      simp only [List.set_set, List.length_set, gs]
      refine br_yes ⟨by omega, by omega⟩ (br_yes ⟨by omega, by omega⟩ (br_t (inK_of (by omega) (by omega)) (br_yes ⟨by omega, by omega⟩ (?_))))
      have e : m + 1 + 1 + 1 = n + ((3 * (i + 1) : Nat) : Int) := by omega
      have e2 : mkDl m = (m, m+1, mt (m+1+1), ()) := by
        unfold mkDl
        rw [show m + 2 = m + 1 + 1 from by omega]
      rw [e2] at hn
      exact next hi' (ys.set i (m, m+1, mt (m+1+1), ()), m + 1 + 1 + 1) ⟨hn, e⟩
    · have hi' : i = xs.length := by omega
      show _ = _
      rw [hc.done (by simp [mkS]; omega), hm, hi']
  · exact h.elim
def g83 : G1
  | [.rsl [.int .i64, .int .i64, .str] xs, .val (.int .i64 n)], [], k => br (inM n xs.length) (k ⟨.val (.int .i64 (hdR (hdB kl mkDl 3 n xs) (n + ((3 * xs.length : Nat) : Int)))), [], []⟩) False
  | _, _, _ => False
noncomputable def E83 : Env := E1.of Try.f83
noncomputable def G83 : Gk := gk [(129, g129)]
noncomputable def lp83 (n : Nat) : Code := (loopOf n (codeOf Try.f83)).getD .skip
noncomputable def ct83 (L : Lp) (R : Option Res → Prop) (n : Nat) : Kt := contOf E83 G83 L n (codeOf Try.f83) (endK E83 Try.f83.results.toList R)
noncomputable def rk83 (L : Lp) (R : Option Res → Prop) (n : Nat) (N : St → Prop) : Kt := rk (jof E83 (lp83 n)) N (ct83 L R n)
noncomputable def LOOP83 (L : Lp) (R : Option Res → Prop) (n : Nat) (st : St) : Prop := L (lp83 n) st (ct83 L R n)
theorem hg83 : HG Try.prog G83 := (hg_cons h129 hg_nil)
theorem okf83 : Ok Try.prog E83 := ok1.of Try.f83
theorem e83 (L : Lp) (R : Option Res → Prop) (xs : List (Elem kl)) (n : Int) : (bodyP E1 G83 L Try.f83 [.rsl kl xs, .val (.int .i64 n)] [] R) = (
    LOOP83 L R 2
      {
        tm :=
          [AV.rsl [CK.int IntKind.i64, CK.int IntKind.i64, CK.str] xs, AV.val (Value.int IntKind.i64 n),
            AV.val (Value.tuple #[]), AV.val (Value.tuple #[]), AV.val (Value.int IntKind.i64 0),
            AV.val (Value.int IntKind.i64 0), AV.junk, AV.junk, AV.junk, AV.junk, AV.junk, AV.junk, AV.junk, AV.junk,
            AV.junk, AV.junk, AV.junk, AV.junk, AV.junk, AV.junk, AV.junk, AV.junk, AV.junk, AV.junk, AV.junk, AV.junk,
            AV.junk, AV.junk, AV.junk, AV.junk, AV.junk, AV.junk, AV.junk, AV.junk, AV.junk, AV.junk, AV.junk, AV.junk,
            AV.junk, AV.junk, AV.val (Value.tuple #[])],
        ob := [], nx := 1000000, ps := [] }) := by kernel_rfl
def st83 (xs : List (Elem kl)) (n i : Int) : St :=
  ⟨[AV.rsl [CK.int IntKind.i64, CK.int IntKind.i64, CK.str] xs, .val (.int .i64 n), AV.val (Value.tuple #[]), AV.val (Value.tuple #[]), AV.val (Value.int IntKind.i64 0), .val (.int .i64 i), AV.junk, AV.junk, AV.junk, AV.junk, AV.junk, AV.junk, AV.junk, AV.junk, AV.junk, AV.junk, AV.junk, AV.junk, AV.junk, AV.junk, AV.junk, AV.junk, AV.junk, AV.junk, AV.junk, AV.junk, AV.junk, AV.junk, AV.junk, AV.junk, AV.junk, AV.junk, AV.junk, AV.junk, AV.junk, AV.junk, AV.junk, AV.junk, AV.junk, AV.junk, AV.val (Value.tuple #[])],
    [], 1000000, []⟩
theorem b83 (L : Lp) (R : Option Res → Prop) (N : St → Prop) (xs : List (Elem kl)) (n i : Int) : (evP E83 G83 L (lp83 2) (st83 xs n i) (rk83 L R 2 N)) = (
    br (decide (i < (↑xs.length : Int)))
      (br (decide (0 ≤ i ∧ i < (↑xs.length : Int)))
        (br ((xs.getD i.toNat (edflt [CK.int IntKind.i64, CK.int IntKind.i64, CK.str])).fst != n)
          (R (some { av := AV.val (Value.int IntKind.i64 (-1)), obs := [], outs := [] }))
          (br (decide (0 ≤ i ∧ i < (↑xs.length : Int)))
            (br
              ((xs.getD i.toNat (edflt [CK.int IntKind.i64, CK.int IntKind.i64, CK.str])).snd.fst !=
                IntKind.i64.wrap (n + 1))
              (R (some { av := AV.val (Value.int IntKind.i64 (-1)), obs := [], outs := [] }))
              (br (decide (0 ≤ i ∧ i < (↑xs.length : Int)))
                (br (inK (IntKind.i64.wrap (IntKind.i64.wrap (n + 1) + 1)))
                  (br
                    (!strEq (xs.getD i.toNat (edflt [CK.int IntKind.i64, CK.int IntKind.i64, CK.str])).snd.snd.fst
                        (mt (IntKind.i64.wrap (IntKind.i64.wrap (n + 1) + 1))))
                    (R (some { av := AV.val (Value.int IntKind.i64 (-1)), obs := [], outs := [] }))
                    (N
                      {
                        tm :=
                          [AV.rsl [CK.int IntKind.i64, CK.int IntKind.i64, CK.str] xs,
                            AV.val
                              (Value.int IntKind.i64
                                (IntKind.i64.wrap (IntKind.i64.wrap (IntKind.i64.wrap (n + 1) + 1) + 1))),
                            AV.val (Value.tuple #[]), AV.val (Value.tuple #[]), AV.val (Value.int IntKind.i64 0),
                            AV.val (Value.int IntKind.i64 (IntKind.i64.wrap (i + 1))), AV.junk, AV.junk, AV.junk, AV.junk,
                            AV.junk, AV.junk, AV.junk, AV.junk, AV.junk, AV.junk, AV.junk, AV.junk, AV.junk, AV.junk,
                            AV.junk, AV.junk, AV.junk, AV.junk, AV.junk, AV.junk, AV.junk, AV.junk, AV.junk, AV.junk,
                            AV.junk, AV.junk, AV.junk, AV.junk, AV.junk, AV.junk, AV.junk, AV.junk, AV.junk, AV.junk,
                            AV.val (Value.tuple #[])],
                        ob := [], nx := 1000000, ps := [] }))
                  False)
                False))
            False))
        False)
      (R (some { av := AV.val (Value.int IntKind.i64 n), obs := [], outs := [] }))) := by kernel_rfl
theorem h83 : G1Ok Try.prog 83 g83 := by
  intro args obs k h
  unfold g83 at h
  split at h
  · rename_i k xs n
    obtain ⟨hp, h⟩ := br_and h
    simp only [inM, decide_eq_true_eq] at hp
    refine ⟨_, ctr_fn ok1 hg83 Try.func83 (by kernel_rfl) (by kernel_rfl) (by kernel_rfl) fun C => ?_, h⟩
    rw [e83]
    refine loopUp okf83 hg83 (fun i (m : Int) => st83 xs m i) xs.length (fun i m => (∀ j, j < i → elemEq kl (xs.getD j (edflt kl)) (mkDl (n + ((3 * j : Nat) : Int))) = true) ∧ m = n + ((3 * i : Nat) : Int)) (fun N i m hi ⟨hall, hm⟩ next => ?_) n ⟨fun j hj => by omega, by simp⟩
    show evP E83 G83 _ (lp83 2) (st83 xs m i) (rk83 _ _ 2 _)
    rw [b83, wrap_id (n := (i : Int) + 1) (by omega) (by omega), Int.toNat_natCast, wrap_id (n := m + 1) (by omega) (by omega), wrap_id (n := m + 1 + 1) (by omega) (by omega), wrap_id (n := m + 1 + 1 + 1) (by omega) (by omega)]
    have he : elemEq kl (xs.getD i (edflt kl)) (mkDl (n + ((3 * i : Nat) : Int))) = ((xs.getD i (edflt kl)).1==m&&((xs.getD i (edflt kl)).2.1==m+1&&strEq (xs.getD i (edflt kl)).2.2.1 (mt (m+1+1)))) := by
      rw [← hm]
      unfold mkDl
      rw [show m + 2 = m + 1 + 1 from by omega]
      rfl
    refine br_dec (fun h2 => ?_) (fun h2 => ?_)
    · have fails : elemEq kl (xs.getD i (edflt kl)) (mkDl (n + ((3 * i : Nat) : Int))) = false → (-1 : Int) = hdR (hdB kl mkDl 3 n xs) (n + ((3 * xs.length : Nat) : Int)) := by
        intro hf
        rw [show hdB kl mkDl 3 n xs = false from allB_f (i := i) (by omega) hf]
        rfl
      refine br_yes ⟨by omega, by omega⟩ (br_bne (fun q0 => ?_) (fun q0 => br_yes ⟨by omega, by omega⟩ (br_bne (fun q1 => ?_) (fun q1 => br_yes ⟨by omega, by omega⟩ (br_t (inK_of (by omega) (by omega)) (br_not (fun q2 => ?_) (fun q2 => ?_)))))))
      · show _ = _
        rw [fails (by rw [he, q0] <;> rfl)]
      · show _ = _
        rw [fails (by rw [he, q0, q1] <;> rfl)]
      · show _ = _
        rw [fails (by rw [he, q0, q1, q2] <;> rfl)]
      · refine next (by omega) _ ⟨fun j hj => ?_, by omega⟩
        by_cases e : j < i
        · exact hall j e
        · have : j = i := by omega
          rw [this, he, q0, q1, q2]
          rfl
    · have hi' : i = xs.length := by omega
      show _ = _
      rw [show hdB kl mkDl 3 n xs = true from allB_t fun j hj => hall j (by omega), hm, hi']
      rfl
  · exact h.elim
end Go.Proofs.Ytjhjhkphcemcmaa.Ev
