/- Marks in memory of one's own. -/
import Derived.Test.YtkjnijddbiconaaD5
namespace Go.Proofs.Ytkjnijddbiconaa.Ev
open Go
set_option linter.unusedVariables false
set_option linter.unusedSimpArgs false
set_option maxRecDepth 100000
def E1 : Env := ⟨tt, [11], E0.eqs, .skip, []⟩
def Eg : Env := ⟨tt, [1000000, 11], E0.eqs, .skip, []⟩
theorem ok1 : Ok Try.prog E1 := ⟨ttOK, eqsOK, by kernel_rfl⟩
theorem okg : Ok Try.prog Eg := ⟨ttOK, eqsOK, by kernel_rfl⟩
theorem ckEq_self0 : ∀ (c : CK) (a : c.T), ckEq c a a = true
  | .int _, a => by simp [ckEq]
  | .str, a => by simp [ckEq, strEq]
  | .bool, a => by simp [ckEq]
theorem elemEq_self0 : ∀ (cs : List CK) (a : Elem cs), elemEq cs a a = true
  | [], _ => rfl
  | [c], a => ckEq_self0 c a.1
  | c :: c' :: cs, a => by
    show (ckEq c a.1 a.1 && elemEq (c' :: cs) a.2 a.2) = true
    rw [ckEq_self0, elemEq_self0]
    rfl
def mkS {α : Type} (f : Int → α) (w : Nat) (k : Int) (n : Nat) : List α := (List.range n).map fun i => f (k + ((w * i : Nat) : Int))
def mk3 (k : Int) : Elem k3 := (k, k + 1, k + 2, ())
def hdR (b : Bool) (k : Int) : Int := match b with
  | true => k
  | false => -1
def hdB (cs : List CK) (f : Int → Elem cs) (w : Nat) (k : Int) (xs : List (Elem cs)) : Bool := allB xs.length fun i => elemEq cs (xs.getD i (edflt cs)) (f (k + ((w * i : Nat) : Int)))
def inM (n : Int) (l : Nat) : Bool := decide (0 ≤ n ∧ n ≤ 549755813888 ∧ (l : Int) ≤ 1073741824)
theorem mkS_getD {α : Type} (f : Int → α) (w : Nat) (k : Int) (n : Nat) (d : α) {i : Nat} (hi : i < n) : (mkS f w k n).getD i d = f (k + ((w * i : Nat) : Int)) := by
  unfold mkS
  rw [List.getD_eq_getElem?_getD, List.getElem?_map, List.getElem?_range hi]
  rfl
theorem getD_set {α : Type} (ys : List α) (a d : α) {i : Nat} (h : i < ys.length) : (ys.set i a).getD i d = a := by
  rw [List.getD_eq_getElem?_getD, List.getElem?_set_self h]
  rfl
theorem inM_ge {n : Int} {l : Nat} (h : inM n l = true) : 0 ≤ n := (of_decide_eq_true h).1
theorem hdR_lt {b : Bool} {n : Int} (h : 0 ≤ n) : hdR b n < 0 ↔ b = false := by
  cases b
  · simp [hdR]
  · simp [hdR]
    exact h
theorem hdB_mk (cs : List CK) (f : Int → Elem cs) (w : Nat) (k : Int) (n : Nat) : hdB cs f w k (mkS f w k n) = true := by
  refine allB_t fun i hi => ?_
  have hi : i < n := by simpa [mkS] using hi
  rw [mkS_getD _ _ _ _ _ hi]
  exact elemEq_self0 _ _
def g11 : G1
  | [.ows 0, .val (.int .i64 n)], [.row [.int .i64, .int .i64, .int .i64] xs], k => br (inM n xs.length) (k ⟨.val (.int .i64 (n + ((3 * xs.length : Nat) : Int))), [.row k3 (mkS mk3 3 n xs.length)], [some 0]⟩) False
  | _, _, _ => False
noncomputable def E11 : Env := E1.of Try.f11
noncomputable def G11 : Gk := gk []
noncomputable def lp11 (n : Nat) : Code := (loopOf n (codeOf Try.f11)).getD .skip
noncomputable def ct11 (L : Lp) (R : Option Res → Prop) (n : Nat) : Kt := contOf E11 G11 L n (codeOf Try.f11) (endK E11 Try.f11.results.toList R)
noncomputable def rk11 (L : Lp) (R : Option Res → Prop) (n : Nat) (N : St → Prop) : Kt := rk (jof E11 (lp11 n)) N (ct11 L R n)
noncomputable def rkn11 (L : Lp) (R : Option Res → Prop) (n : Nat) (N : St → Prop) (m : Nat) (N2 : St → Prop) : Kt := rk (jof E11 (lp11 m)) N2 (contOf E11 G11 L m (lp11 n) (rk11 L R n N))
noncomputable def LOOPN11 (L : Lp) (R : Option Res → Prop) (n : Nat) (N : St → Prop) (m : Nat) (st : St) : Prop := L (lp11 m) st (contOf E11 G11 L m (lp11 n) (rk11 L R n N))
noncomputable def LOOP11 (L : Lp) (R : Option Res → Prop) (n : Nat) (st : St) : Prop := L (lp11 n) st (ct11 L R n)
theorem hg11 : HG Try.prog G11 := hg_nil
theorem okf11 : Ok Try.prog E11 := ok1.of Try.f11
theorem e11 (L : Lp) (R : Option Res → Prop) (xs : List (Elem k3)) (n : Int) : (bodyP E1 G11 L Try.f11 [.ows 0, .val (.int .i64 n)] [.row k3 xs] R) = (
    LOOP11 L R 2 { tm := [AV.ows 0, vI n, vU, vU, vI 0, vI 0, vJ, vJ, vJ, vJ, vJ, vJ, vJ, vJ, vJ, vJ, vJ, vJ, vJ, vJ, vJ, vJ, vJ, vJ, vJ, vJ, vJ, vJ, vJ, vJ, vJ, vJ, vJ, vU], ob := [(0, AO.row k3 xs)], nx := 1000000, ps := [some 0] }) := by kernel_rfl
def st11 (xs : List (Elem k3)) (n i : Int) : St :=  ⟨[AV.ows 0, .val (.int .i64 n), vU, vU, vI 0, .val (.int .i64 i), vJ, vJ, vJ, vJ, vJ, vJ, vJ, vJ, vJ, vJ, vJ, vJ, vJ, vJ, vJ, vJ, vJ, vJ, vJ, vJ, vJ, vJ, vJ, vJ, vJ, vJ, vJ, vU], [(0, .row k3 xs)], 1000000, [some 0]⟩
theorem b11 (L : Lp) (R : Option Res → Prop) (N : St → Prop) (xs : List (Elem k3)) (n i : Int) : (evP E11 G11 L (lp11 2) (st11 xs n i) (rk11 L R 2 N)) = (
    br (decide (i < (↑xs.length : Int))) (br (decide (0 ≤ i ∧ i < (↑xs.length : Int))) (br (decide (0 ≤ i ∧ i < (↑(xs.set i.toNat (n, (xs.getD i.toNat (edflt k3)).snd)).length : Int))) (br (decide (0 ≤ i ∧ i < (↑((xs.set i.toNat (n, (xs.getD i.toNat (edflt k3)).snd)).set i.toNat (((xs.set i.toNat (n, (xs.getD i.toNat (edflt k3)).snd)).getD i.toNat (edflt k3)).fst, IntKind.i64.wrap (n + 1), ((xs.set i.toNat (n, (xs.getD i.toNat (edflt k3)).snd)).getD i.toNat (edflt k3)).snd.snd)).length : Int))) (N { tm := [AV.ows 0, vI (IntKind.i64.wrap (IntKind.i64.wrap (IntKind.i64.wrap (n + 1) + 1) + 1)), vU, vU, vI 0, vI (IntKind.i64.wrap (i + 1)), vJ, vJ, vJ, vJ, vJ, vJ, vJ, vJ, vJ, vJ, vJ, vJ, vJ, vJ, vJ, vJ, vJ, vJ, vJ, vJ, vJ, vJ, vJ, vJ, vJ, vJ, vJ, vU], ob := [(0, AO.row k3 (((xs.set i.toNat (n, (xs.getD i.toNat (edflt k3)).snd)).set i.toNat (((xs.set i.toNat (n, (xs.getD i.toNat (edflt k3)).snd)).getD i.toNat (edflt k3)).fst, IntKind.i64.wrap (n + 1), ((xs.set i.toNat (n, (xs.getD i.toNat (edflt k3)).snd)).getD i.toNat (edflt k3)).snd.snd)).set i.toNat ((((xs.set i.toNat (n, (xs.getD i.toNat (edflt k3)).snd)).set i.toNat (((xs.set i.toNat (n, (xs.getD i.toNat (edflt k3)).snd)).getD i.toNat (edflt k3)).fst, IntKind.i64.wrap (n + 1), ((xs.set i.toNat (n, (xs.getD i.toNat (edflt k3)).snd)).getD i.toNat (edflt k3)).snd.snd)).getD i.toNat (edflt k3)).fst, (((xs.set i.toNat (n, (xs.getD i.toNat (edflt k3)).snd)).set i.toNat (((xs.set i.toNat (n, (xs.getD i.toNat (edflt k3)).snd)).getD i.toNat (edflt k3)).fst, IntKind.i64.wrap (n + 1), ((xs.set i.toNat (n, (xs.getD i.toNat (edflt k3)).snd)).getD i.toNat (edflt k3)).snd.snd)).getD i.toNat (edflt k3)).snd.fst, IntKind.i64.wrap (IntKind.i64.wrap (n + 1) + 1), ())))], nx := 1000000, ps := [some 0] }) False) False) False) (R (some { av := vI n, obs := [AO.row k3 xs], outs := [some 0] }))) := by kernel_rfl
theorem h11 : G1Ok Try.prog 11 g11 := by
  intro args obs k h
  unfold g11 at h
  split at h
  · rename_i k n xs
    obtain ⟨hp, h⟩ := br_and h
    simp only [inM, decide_eq_true_eq] at hp
    refine ⟨_, ctr_fn ok1 hg11 Try.func11 (by kernel_rfl) (by kernel_rfl) (by kernel_rfl) fun C => ?_, h⟩
    rw [e11]
    refine loopUp okf11 hg11 (fun i (p : List (Elem k3) × Int) => st11 p.1 p.2 i) xs.length (fun i p => Cp (mkS mk3 3 n xs.length) i p.1 ∧ p.2 = n + ((3 * i : Nat) : Int)) (fun N i ⟨ys, m⟩ hi ⟨hc, hm⟩ next => ?_) (xs, n) ⟨⟨by simp [mkS], by simp⟩, by simp⟩
    show evP E11 G11 _ (lp11 2) (st11 ys m i) (rk11 _ _ 2 _)
    have hl : ys.length = xs.length := by
      have := hc.len
      simpa [mkS] using this
    simp only at hm hc next
    rw [b11, wrap_id (n := (i : Int) + 1) (by omega) (by omega), Int.toNat_natCast, wrap_id (n := m + 1) (by omega) (by omega), wrap_id (n := m + 1 + 1) (by omega) (by omega), wrap_id (n := m + 1 + 1 + 1) (by omega) (by omega)]
    refine br_dec (fun h2 => ?_) (fun h2 => ?_)
    · have hi' : i < xs.length := by omega
      have gs : ∀ a, (ys.set i a).getD i (edflt k3) = a := fun a => getD_set ys a _ (by omega)
      have hn := hc.next (i := i) (d := edflt k3) (by simpa [mkS] using hi')
      rw [mkS_getD _ _ _ _ _ hi', ← hm] at hn
      simp only [List.set_set, List.length_set, gs]
      refine br_yes ⟨by omega, by omega⟩ (br_yes ⟨by omega, by omega⟩ (br_yes ⟨by omega, by omega⟩ (?_)))
      have e : m + 1 + 1 + 1 = n + ((3 * (i + 1) : Nat) : Int) := by omega
      have e2 : mk3 m = (m, m+1, m+1+1, ()) := by
        unfold mk3
        rw [show m + 2 = m + 1 + 1 from by omega]
      rw [e2] at hn
      exact next hi' (ys.set i (m, m+1, m+1+1, ()), m + 1 + 1 + 1) ⟨hn, e⟩
    · have hi' : i = xs.length := by omega
      show _ = _
      rw [hc.done (by simp [mkS]; omega), hm, hi']
  · exact h.elim
def g12 : G1
  | [.rsl [.int .i64, .int .i64, .int .i64] xs, .val (.int .i64 n)], [], k => br (inM n xs.length) (k ⟨.val (.int .i64 (hdR (hdB k3 mk3 3 n xs) (n + ((3 * xs.length : Nat) : Int)))), [], []⟩) False
  | _, _, _ => False
noncomputable def E12 : Env := E1.of Try.f12
noncomputable def G12 : Gk := gk []
noncomputable def lp12 (n : Nat) : Code := (loopOf n (codeOf Try.f12)).getD .skip
noncomputable def ct12 (L : Lp) (R : Option Res → Prop) (n : Nat) : Kt := contOf E12 G12 L n (codeOf Try.f12) (endK E12 Try.f12.results.toList R)
noncomputable def rk12 (L : Lp) (R : Option Res → Prop) (n : Nat) (N : St → Prop) : Kt := rk (jof E12 (lp12 n)) N (ct12 L R n)
noncomputable def rkn12 (L : Lp) (R : Option Res → Prop) (n : Nat) (N : St → Prop) (m : Nat) (N2 : St → Prop) : Kt := rk (jof E12 (lp12 m)) N2 (contOf E12 G12 L m (lp12 n) (rk12 L R n N))
noncomputable def LOOPN12 (L : Lp) (R : Option Res → Prop) (n : Nat) (N : St → Prop) (m : Nat) (st : St) : Prop := L (lp12 m) st (contOf E12 G12 L m (lp12 n) (rk12 L R n N))
noncomputable def LOOP12 (L : Lp) (R : Option Res → Prop) (n : Nat) (st : St) : Prop := L (lp12 n) st (ct12 L R n)
theorem hg12 : HG Try.prog G12 := hg_nil
theorem okf12 : Ok Try.prog E12 := ok1.of Try.f12
theorem e12 (L : Lp) (R : Option Res → Prop) (xs : List (Elem k3)) (n : Int) : (bodyP E1 G12 L Try.f12 [.rsl k3 xs, .val (.int .i64 n)] [] R) = (
    LOOP12 L R 2 { tm := [AV.rsl k3 xs, vI n, vU, vU, vI 0, vI 0, vJ, vJ, vJ, vJ, vJ, vJ, vJ, vJ, vJ, vJ, vJ, vJ, vJ, vJ, vJ, vJ, vJ, vJ, vJ, vJ, vJ, vJ, vJ, vJ, vJ, vJ, vJ, vJ, vJ, vJ, vJ, vJ, vJ, vU], ob := [], nx := 1000000, ps := [] }) := by kernel_rfl
def st12 (xs : List (Elem k3)) (n i : Int) : St :=  ⟨[AV.rsl k3 xs, .val (.int .i64 n), vU, vU, vI 0, .val (.int .i64 i), vJ, vJ, vJ, vJ, vJ, vJ, vJ, vJ, vJ, vJ, vJ, vJ, vJ, vJ, vJ, vJ, vJ, vJ, vJ, vJ, vJ, vJ, vJ, vJ, vJ, vJ, vJ, vJ, vJ, vJ, vJ, vJ, vJ, vU], [], 1000000, []⟩
theorem b12 (L : Lp) (R : Option Res → Prop) (N : St → Prop) (xs : List (Elem k3)) (n i : Int) : (evP E12 G12 L (lp12 2) (st12 xs n i) (rk12 L R 2 N)) = (
    br (decide (i < (↑xs.length : Int))) (br (decide (0 ≤ i ∧ i < (↑xs.length : Int))) (br ((xs.getD i.toNat (edflt k3)).fst != n) (R (some { av := vI (-1), obs := [], outs := [] })) (br (decide (0 ≤ i ∧ i < (↑xs.length : Int))) (br ((xs.getD i.toNat (edflt k3)).snd.fst != IntKind.i64.wrap (n + 1)) (R (some { av := vI (-1), obs := [], outs := [] })) (br (decide (0 ≤ i ∧ i < (↑xs.length : Int))) (br ((xs.getD i.toNat (edflt k3)).snd.snd.fst != IntKind.i64.wrap (IntKind.i64.wrap (n + 1) + 1)) (R (some { av := vI (-1), obs := [], outs := [] })) (N { tm := [AV.rsl k3 xs, vI (IntKind.i64.wrap (IntKind.i64.wrap (IntKind.i64.wrap (n + 1) + 1) + 1)), vU, vU, vI 0, vI (IntKind.i64.wrap (i + 1)), vJ, vJ, vJ, vJ, vJ, vJ, vJ, vJ, vJ, vJ, vJ, vJ, vJ, vJ, vJ, vJ, vJ, vJ, vJ, vJ, vJ, vJ, vJ, vJ, vJ, vJ, vJ, vJ, vJ, vJ, vJ, vJ, vJ, vU], ob := [], nx := 1000000, ps := [] })) False)) False)) False) (R (some { av := vI n, obs := [], outs := [] }))) := by kernel_rfl
theorem h12 : G1Ok Try.prog 12 g12 := by
  intro args obs k h
  unfold g12 at h
  split at h
  · rename_i k xs n
    obtain ⟨hp, h⟩ := br_and h
    simp only [inM, decide_eq_true_eq] at hp
    refine ⟨_, ctr_fn ok1 hg12 Try.func12 (by kernel_rfl) (by kernel_rfl) (by kernel_rfl) fun C => ?_, h⟩
    rw [e12]
    refine loopUp okf12 hg12 (fun i (m : Int) => st12 xs m i) xs.length (fun i m => (∀ j, j < i → elemEq k3 (xs.getD j (edflt k3)) (mk3 (n + ((3 * j : Nat) : Int))) = true) ∧ m = n + ((3 * i : Nat) : Int)) (fun N i m hi ⟨hall, hm⟩ next => ?_) n ⟨fun j hj => by omega, by simp⟩
    show evP E12 G12 _ (lp12 2) (st12 xs m i) (rk12 _ _ 2 _)
    rw [b12, wrap_id (n := (i : Int) + 1) (by omega) (by omega), Int.toNat_natCast, wrap_id (n := m + 1) (by omega) (by omega), wrap_id (n := m + 1 + 1) (by omega) (by omega), wrap_id (n := m + 1 + 1 + 1) (by omega) (by omega)]
    have he : elemEq k3 (xs.getD i (edflt k3)) (mk3 (n + ((3 * i : Nat) : Int))) = ((xs.getD i (edflt k3)).1==m&&((xs.getD i (edflt k3)).2.1==m+1&&(xs.getD i (edflt k3)).2.2.1==m+1+1)) := by
      rw [← hm]
      unfold mk3
      rw [show m + 2 = m + 1 + 1 from by omega]
      rfl
    refine br_dec (fun h2 => ?_) (fun h2 => ?_)
    · have fails : elemEq k3 (xs.getD i (edflt k3)) (mk3 (n + ((3 * i : Nat) : Int))) = false → (-1 : Int) = hdR (hdB k3 mk3 3 n xs) (n + ((3 * xs.length : Nat) : Int)) := by
        intro hf
        rw [show hdB k3 mk3 3 n xs = false from allB_f (i := i) (by omega) hf]
        rfl
      refine br_yes ⟨by omega, by omega⟩ (br_bne (fun q0 => ?_) (fun q0 => br_yes ⟨by omega, by omega⟩ (br_bne (fun q1 => ?_) (fun q1 => br_yes ⟨by omega, by omega⟩ (br_bne (fun q2 => ?_) (fun q2 => ?_))))))
      · show _ = _
        rw [fails (by rw [he, q0] <;> rfl)]
      · show _ = _
        rw [fails (by rw [he, q0, q1] <;> rfl)]
      · show _ = _
        rw [fails (by rw [he, q0, q1, q2] <;> rfl)]
      · refine next (by omega) _ ⟨fun j hj => ?_, by omega⟩
        by_cases e : j < i
        · exact hall j e
        · have : j = i := by omega
          rw [this, he, q0, q1, q2]
          rfl
    · have hi' : i = xs.length := by omega
      show _ = _
      rw [show hdB k3 mk3 3 n xs = true from allB_t fun j hj => hall j (by omega), hm, hi']
      rfl
  · exact h.elim
theorem mkS_len {α : Type} (f : Int → α) (w : Nat) (k : Int) (n : Nat) : (mkS f w k n).length = n := by simp [mkS]
theorem inM_of {n : Nat} (h : n ≤ 1048576) : inM 1 n = true := by
  unfold inM
  exact decide_eq_true ⟨by omega, by omega, by omega⟩
end Go.Proofs.Ytkjnijddbiconaa.Ev
