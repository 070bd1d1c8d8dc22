/- The law of CoreBook: marks in disks and books. -/
import Derived.Test.YtkjnijddbiconaaGreatDoorK6
import Derived.Test.YtkjnijddbiconaaGreatDoorMC
namespace Go.Proofs.YtkjnijddbiconaaGreatDoor.Ev
open Go
set_option linter.unusedVariables false
set_option linter.unusedSimpArgs false
set_option maxRecDepth 100000
set_option maxHeartbeats 1000000
def mkT (k : Int) : Elem ks := (mt k, ())
def mkDl (k : Int) : Elem kl := (k, k + 1, mt (k + 2), ())
def g161 : G1
  | [.ows 0, .val (.int .i64 n)], [.row [.str] xs], k => br (inM n xs.length) (k ⟨.val (.int .i64 (n + ((1 * xs.length : Nat) : Int))), [.row ks (mkS mkT 1 n xs.length)], [some 0]⟩) False
  | _, _, _ => False
noncomputable def E161 : Env := E1.of Tryz.f161
noncomputable def G161 : Gk := gk [(142, g142)]
noncomputable def lp161 (n : Nat) : Code := (loopOf n (codeOf Tryz.f161)).getD .skip
noncomputable def ct161 (L : Lp) (R : Option Res → Prop) (n : Nat) : Kt := contOf E161 G161 L n (codeOf Tryz.f161) (endK E161 Tryz.f161.results.toList R)
noncomputable def rk161 (L : Lp) (R : Option Res → Prop) (n : Nat) (N : St → Prop) : Kt := rk (jof E161 (lp161 n)) N (ct161 L R n)
noncomputable def rkn161 (L : Lp) (R : Option Res → Prop) (n : Nat) (N : St → Prop) (m : Nat) (N2 : St → Prop) : Kt := rk (jof E161 (lp161 m)) N2 (contOf E161 G161 L m (lp161 n) (rk161 L R n N))
noncomputable def LOOPN161 (L : Lp) (R : Option Res → Prop) (n : Nat) (N : St → Prop) (m : Nat) (st : St) : Prop := L (lp161 m) st (contOf E161 G161 L m (lp161 n) (rk161 L R n N))
noncomputable def LOOP161 (L : Lp) (R : Option Res → Prop) (n : Nat) (st : St) : Prop := L (lp161 n) st (ct161 L R n)
theorem hg161 : HG Tryz.prog G161 := (hg_cons h142 hg_nil)
theorem okf161 : Ok Tryz.prog E161 := ok1.of Tryz.f161
theorem e161 (L : Lp) (R : Option Res → Prop) (xs : List (Elem ks)) (n : Int) : (bodyP E1 G161 L Tryz.f161 [.ows 0, .val (.int .i64 n)] [.row ks xs] R) = (
    LOOP161 L R 2 { tm := [AV.ows 0, vI n, vU, vU, vI 0, vI 0, vJ, vJ, vJ, vJ, vJ, vJ, vJ, vJ, vJ, vJ, vJ, vJ, vJ, vU], ob := [(0, AO.row ks xs)], nx := 1000000, ps := [some 0] }) := by kernel_rfl
def st161 (xs : List (Elem ks)) (n i : Int) : St :=  ⟨[AV.ows 0, .val (.int .i64 n), vU, vU, vI 0, .val (.int .i64 i), vJ, vJ, vJ, vJ, vJ, vJ, vJ, vJ, vJ, vJ, vJ, vJ, vJ, vU], [(0, .row ks xs)], 1000000, [some 0]⟩
theorem b161 (L : Lp) (R : Option Res → Prop) (N : St → Prop) (xs : List (Elem ks)) (n i : Int) : (evP E161 G161 L (lp161 2) (st161 xs n i) (rk161 L R 2 N)) = (
    br (decide (i < (↑xs.length : Int))) (br (inK n) (br (decide (0 ≤ i ∧ i < (↑xs.length : Int))) (N { tm := [AV.ows 0, vI (IntKind.i64.wrap (n + 1)), vU, vU, vI 0, vI (IntKind.i64.wrap (i + 1)), vJ, vJ, vJ, vJ, vJ, vJ, vJ, vJ, vJ, vJ, vJ, vJ, vJ, vU], ob := [(0, AO.row ks (xs.set i.toNat (mt n, ())))], nx := 1000000, ps := [some 0] }) False) False) (R (some { av := vI n, obs := [AO.row ks xs], outs := [some 0] }))) := by kernel_rfl
theorem h161 : G1Ok Tryz.prog 161 g161 := by
  intro args obs k h
  unfold g161 at h
  split at h
  · rename_i k n xs
    obtain ⟨hp, h⟩ := br_and h
    simp only [inM, decide_eq_true_eq] at hp
    refine ⟨_, ctr_fn ok1 hg161 Tryz.func161 (by kernel_rfl) (by kernel_rfl) (by kernel_rfl) fun C => ?_, h⟩
    rw [e161]
    refine loopUp okf161 hg161 (fun i (p : List (Elem ks) × Int) => st161 p.1 p.2 i) xs.length (fun i p => Cp (mkS mkT 1 n xs.length) i p.1 ∧ p.2 = n + ((1 * i : Nat) : Int)) (fun N i ⟨ys, m⟩ hi ⟨hc, hm⟩ next => ?_) (xs, n) ⟨⟨by simp [mkS], by simp⟩, by simp⟩
    show evP E161 G161 _ (lp161 2) (st161 ys m i) (rk161 _ _ 2 _)
    have hl : ys.length = xs.length := by
      have := hc.len
      simpa [mkS] using this
    simp only at hm hc next
    rw [b161, wrap_id (n := (i : Int) + 1) (by omega) (by omega), Int.toNat_natCast, wrap_id (n := m + 1) (by omega) (by omega)]
    refine br_dec (fun h2 => ?_) (fun h2 => ?_)
    · have hi' : i < xs.length := by omega
      have gs : ∀ a, (ys.set i a).getD i (edflt ks) = a := fun a => getD_set ys a _ (by omega)
      have hn := hc.next (i := i) (d := edflt ks) (by simpa [mkS] using hi')
      rw [mkS_getD _ _ _ _ _ hi', ← hm] at hn
      skip
      refine br_t (inK_of (by omega) (by omega)) (br_yes ⟨by omega, by omega⟩ (?_))
      have e : m + 1 = n + ((1 * (i + 1) : Nat) : Int) := by omega
      refine next hi' (ys.set i (mkT m), m + 1) ⟨hn, e⟩
    · have hi' : i = xs.length := by omega
      show _ = _
      rw [hc.done (by simp [mkS]; omega), hm, hi']
  · exact h.elim
def g90 : G1
  | [.ows 0, .val (.int .i64 n)], [.row [.int .i64, .int .i64, .str] xs], k => br (inM n xs.length) (k ⟨.val (.int .i64 (n + ((3 * xs.length : Nat) : Int))), [.row kl (mkS mkDl 3 n xs.length)], [some 0]⟩) False
  | _, _, _ => False
noncomputable def E90 : Env := E1.of Tryz.f90
noncomputable def G90 : Gk := gk [(142, g142)]
noncomputable def lp90 (n : Nat) : Code := (loopOf n (codeOf Tryz.f90)).getD .skip
noncomputable def ct90 (L : Lp) (R : Option Res → Prop) (n : Nat) : Kt := contOf E90 G90 L n (codeOf Tryz.f90) (endK E90 Tryz.f90.results.toList R)
noncomputable def rk90 (L : Lp) (R : Option Res → Prop) (n : Nat) (N : St → Prop) : Kt := rk (jof E90 (lp90 n)) N (ct90 L R n)
noncomputable def rkn90 (L : Lp) (R : Option Res → Prop) (n : Nat) (N : St → Prop) (m : Nat) (N2 : St → Prop) : Kt := rk (jof E90 (lp90 m)) N2 (contOf E90 G90 L m (lp90 n) (rk90 L R n N))
noncomputable def LOOPN90 (L : Lp) (R : Option Res → Prop) (n : Nat) (N : St → Prop) (m : Nat) (st : St) : Prop := L (lp90 m) st (contOf E90 G90 L m (lp90 n) (rk90 L R n N))
noncomputable def LOOP90 (L : Lp) (R : Option Res → Prop) (n : Nat) (st : St) : Prop := L (lp90 n) st (ct90 L R n)
theorem hg90 : HG Tryz.prog G90 := (hg_cons h142 hg_nil)
theorem okf90 : Ok Tryz.prog E90 := ok1.of Tryz.f90
theorem e90 (L : Lp) (R : Option Res → Prop) (xs : List (Elem kl)) (n : Int) : (bodyP E1 G90 L Tryz.f90 [.ows 0, .val (.int .i64 n)] [.row kl xs] R) = (
    LOOP90 L R 2 { tm := [AV.ows 0, vI n, vU, vU, vI 0, vI 0, vJ, vJ, vJ, vJ, vJ, vJ, vJ, vJ, vJ, vJ, vJ, vJ, vJ, vJ, vJ, vJ, vJ, vJ, vJ, vJ, vJ, vJ, vJ, vJ, vJ, vJ, vJ, vJ, vU], ob := [(0, AO.row kl xs)], nx := 1000000, ps := [some 0] }) := by kernel_rfl
def st90 (xs : List (Elem kl)) (n i : Int) : St :=  ⟨[AV.ows 0, .val (.int .i64 n), vU, vU, vI 0, .val (.int .i64 i), vJ, vJ, vJ, vJ, vJ, vJ, vJ, vJ, vJ, vJ, vJ, vJ, vJ, vJ, vJ, vJ, vJ, vJ, vJ, vJ, vJ, vJ, vJ, vJ, vJ, vJ, vJ, vJ, vU], [(0, .row kl xs)], 1000000, [some 0]⟩
theorem b90 (L : Lp) (R : Option Res → Prop) (N : St → Prop) (xs : List (Elem kl)) (n i : Int) : (evP E90 G90 L (lp90 2) (st90 xs n i) (rk90 L R 2 N)) = (
    br (decide (i < (↑xs.length : Int))) (br (decide (0 ≤ i ∧ i < (↑xs.length : Int))) (br (decide (0 ≤ i ∧ i < (↑(xs.set i.toNat (n, (xs.getD i.toNat (edflt kl)).snd)).length : Int))) (br (inK (IntKind.i64.wrap (IntKind.i64.wrap (n + 1) + 1))) (br (decide (0 ≤ i ∧ i < (↑((xs.set i.toNat (n, (xs.getD i.toNat (edflt kl)).snd)).set i.toNat (((xs.set i.toNat (n, (xs.getD i.toNat (edflt kl)).snd)).getD i.toNat (edflt kl)).fst, IntKind.i64.wrap (n + 1), ((xs.set i.toNat (n, (xs.getD i.toNat (edflt kl)).snd)).getD i.toNat (edflt kl)).snd.snd)).length : Int))) (N { tm := [AV.ows 0, vI (IntKind.i64.wrap (IntKind.i64.wrap (IntKind.i64.wrap (n + 1) + 1) + 1)), vU, vU, vI 0, vI (IntKind.i64.wrap (i + 1)), vJ, vJ, vJ, vJ, vJ, vJ, vJ, vJ, vJ, vJ, vJ, vJ, vJ, vJ, vJ, vJ, vJ, vJ, vJ, vJ, vJ, vJ, vJ, vJ, vJ, vJ, vJ, vJ, vU], ob := [(0, AO.row kl (((xs.set i.toNat (n, (xs.getD i.toNat (edflt kl)).snd)).set i.toNat (((xs.set i.toNat (n, (xs.getD i.toNat (edflt kl)).snd)).getD i.toNat (edflt kl)).fst, IntKind.i64.wrap (n + 1), ((xs.set i.toNat (n, (xs.getD i.toNat (edflt kl)).snd)).getD i.toNat (edflt kl)).snd.snd)).set i.toNat ((((xs.set i.toNat (n, (xs.getD i.toNat (edflt kl)).snd)).set i.toNat (((xs.set i.toNat (n, (xs.getD i.toNat (edflt kl)).snd)).getD i.toNat (edflt kl)).fst, IntKind.i64.wrap (n + 1), ((xs.set i.toNat (n, (xs.getD i.toNat (edflt kl)).snd)).getD i.toNat (edflt kl)).snd.snd)).getD i.toNat (edflt kl)).fst, (((xs.set i.toNat (n, (xs.getD i.toNat (edflt kl)).snd)).set i.toNat (((xs.set i.toNat (n, (xs.getD i.toNat (edflt kl)).snd)).getD i.toNat (edflt kl)).fst, IntKind.i64.wrap (n + 1), ((xs.set i.toNat (n, (xs.getD i.toNat (edflt kl)).snd)).getD i.toNat (edflt kl)).snd.snd)).getD i.toNat (edflt kl)).snd.fst, mt (IntKind.i64.wrap (IntKind.i64.wrap (n + 1) + 1)), ())))], nx := 1000000, ps := [some 0] }) False) False) False) False) (R (some { av := vI n, obs := [AO.row kl xs], outs := [some 0] }))) := by kernel_rfl
theorem h90 : G1Ok Tryz.prog 90 g90 := by
  intro args obs k h
  unfold g90 at h
  split at h
  · rename_i k n xs
    obtain ⟨hp, h⟩ := br_and h
    simp only [inM, decide_eq_true_eq] at hp
    refine ⟨_, ctr_fn ok1 hg90 Tryz.func90 (by kernel_rfl) (by kernel_rfl) (by kernel_rfl) fun C => ?_, h⟩
    rw [e90]
    refine loopUp okf90 hg90 (fun i (p : List (Elem kl) × Int) => st90 p.1 p.2 i) xs.length (fun i p => Cp (mkS mkDl 3 n xs.length) i p.1 ∧ p.2 = n + ((3 * i : Nat) : Int)) (fun N i ⟨ys, m⟩ hi ⟨hc, hm⟩ next => ?_) (xs, n) ⟨⟨by simp [mkS], by simp⟩, by simp⟩
    show evP E90 G90 _ (lp90 2) (st90 ys m i) (rk90 _ _ 2 _)
    have hl : ys.length = xs.length := by
      have := hc.len
      simpa [mkS] using this
    simp only at hm hc next
    rw [b90, wrap_id (n := (i : Int) + 1) (by omega) (by omega), Int.toNat_natCast, wrap_id (n := m + 1) (by omega) (by omega), wrap_id (n := m + 1 + 1) (by omega) (by omega), wrap_id (n := m + 1 + 1 + 1) (by omega) (by omega)]
    refine br_dec (fun h2 => ?_) (fun h2 => ?_)
    · have hi' : i < xs.length := by omega
      have gs : ∀ a, (ys.set i a).getD i (edflt kl) = a := fun a => getD_set ys a _ (by omega)
      have hn := hc.next (i := i) (d := edflt kl) (by simpa [mkS] using hi')
      rw [mkS_getD _ _ _ _ _ hi', ← hm] at hn
      simp only [List.set_set, List.length_set, gs]
      refine br_yes ⟨by omega, by omega⟩ (br_yes ⟨by omega, by omega⟩ (br_t (inK_of (by omega) (by omega)) (br_yes ⟨by omega, by omega⟩ (?_))))
      have e : m + 1 + 1 + 1 = n + ((3 * (i + 1) : Nat) : Int) := by omega
      have e2 : mkDl m = (m, m+1, mt (m+1+1), ()) := by
        unfold mkDl
        rw [show m + 2 = m + 1 + 1 from by omega]
      rw [e2] at hn
      exact next hi' (ys.set i (m, m+1, mt (m+1+1), ()), m + 1 + 1 + 1) ⟨hn, e⟩
    · have hi' : i = xs.length := by omega
      show _ = _
      rw [hc.done (by simp [mkS]; omega), hm, hi']
  · exact h.elim
def mkA (n : Int) (a : List (Elem ks)) : List (Elem ks) := mkS mkT 1 n a.length
def nxA (n : Int) (a : List (Elem ks)) : Int := n + ((1 * a.length : Nat) : Int)
def g89 : G1
  | [.agg [.ows 0, .ows 1], .val (.int .i64 n)], [.row [.str] a, .row [.str] b], k => br (inM n a.length && inM (nxA n a) b.length) (k ⟨.val (.int .i64 (nxA (nxA n a) b)), [.row ks (mkA n a), .row ks (mkA (nxA n a) b)], [some 0, some 1]⟩) False
  | _, _, _ => False
def mkC (n : Int) (c : List (Elem kl)) : List (Elem kl) := mkS mkDl 3 n c.length
def nxC (n : Int) (c : List (Elem kl)) : Int := n + ((3 * c.length : Nat) : Int)
def inMD (n : Int) (a b : List (Elem ks)) (c : List (Elem kl)) : Bool := inM n a.length && inM (nxA n a) b.length && inM (nxA (nxA n a) b) c.length
def g32 : G1
  | [.agg [.ows 0, .ows 1, .ows 2], .val (.int .i64 n)], [.row [.str] a, .row [.str] b, .row [.int .i64, .int .i64, .str] c], k => br (inMD n a b c) (k ⟨.val (.int .i64 (nxC (nxA (nxA n a) b) c)), [.row ks (mkA n a), .row ks (mkA (nxA n a) b), .row kl (mkC (nxA (nxA n a) b) c)], [some 0, some 1, some 2]⟩) False
  | _, _, _ => False
noncomputable def E89 : Env := E1.of Tryz.f89
noncomputable def G89 : Gk := gk [(161, g161)]
noncomputable def lp89 (n : Nat) : Code := (loopOf n (codeOf Tryz.f89)).getD .skip
noncomputable def ct89 (L : Lp) (R : Option Res → Prop) (n : Nat) : Kt := contOf E89 G89 L n (codeOf Tryz.f89) (endK E89 Tryz.f89.results.toList R)
noncomputable def rk89 (L : Lp) (R : Option Res → Prop) (n : Nat) (N : St → Prop) : Kt := rk (jof E89 (lp89 n)) N (ct89 L R n)
noncomputable def rkn89 (L : Lp) (R : Option Res → Prop) (n : Nat) (N : St → Prop) (m : Nat) (N2 : St → Prop) : Kt := rk (jof E89 (lp89 m)) N2 (contOf E89 G89 L m (lp89 n) (rk89 L R n N))
noncomputable def LOOPN89 (L : Lp) (R : Option Res → Prop) (n : Nat) (N : St → Prop) (m : Nat) (st : St) : Prop := L (lp89 m) st (contOf E89 G89 L m (lp89 n) (rk89 L R n N))
noncomputable def LOOP89 (L : Lp) (R : Option Res → Prop) (n : Nat) (st : St) : Prop := L (lp89 n) st (ct89 L R n)
theorem hg89 : HG Tryz.prog G89 := (hg_cons h161 hg_nil)
theorem okf89 : Ok Tryz.prog E89 := ok1.of Tryz.f89
theorem e89 (L : Lp) (R : Option Res → Prop) (a b : List (Elem ks)) (n : Int) : (bodyP E1 G89 L Tryz.f89 [.agg [.ows 0, .ows 1], .val (.int .i64 n)] [.row ks a, .row ks b] R) = (
    LOOP89 L R 2 { tm := [AV.agg [AV.ows 0, AV.ows 1], vI n, AV.ptr 2 0, vU, vI 0, vI 0, vJ, vJ, vJ, vJ, vJ, vJ, vJ, vJ, vJ, vU], ob := [(0, AO.row ks a), (1, AO.row ks b), (2, AO.box [AV.ows 0, AV.ows 1])], nx := 1000000, ps := [some 0, some 1] }) := by kernel_rfl
def st89 (a b : List (Elem ks)) (n i : Int) : St :=  ⟨[AV.agg [AV.ows 0, AV.ows 1], .val (.int .i64 n), AV.ptr 2 0, vU, vI 0, .val (.int .i64 i), vJ, vJ, vJ, vJ, vJ, vJ, vJ, vJ, vJ, vU], [(0, AO.row ks a), (1, AO.row ks b), (2, AO.box [AV.ows 0, AV.ows 1])], 1000000, [some 0, some 1]⟩
theorem b89_0 (L : Lp) (R : Option Res → Prop) (N : St → Prop) (a b : List (Elem ks)) (n : Int) : (evP E89 G89 L (lp89 2) (st89 a b n 0) (rk89 L R 2 N)) = (
    br (inM n a.length) (N { tm := [AV.agg [AV.ows 0, AV.ows 1], vI (n + (↑(1 * a.length) : Int)), AV.ptr 2 0, vU, vI 0, vI 1, vJ, vJ, vJ, vJ, vJ, vJ, vJ, vJ, vJ, vU], ob := [(0, AO.row ks (mkS mkT 1 n a.length)), (1, AO.row ks b), (2, AO.box [AV.ows 0, AV.ows 1])], nx := 1000000, ps := [some 0, some 1] }) False) := by kernel_rfl
theorem b89_1 (L : Lp) (R : Option Res → Prop) (N : St → Prop) (a b : List (Elem ks)) (n : Int) : (evP E89 G89 L (lp89 2) (st89 a b n 1) (rk89 L R 2 N)) = (
    br (inM n b.length) (N { tm := [AV.agg [AV.ows 0, AV.ows 1], vI (n + (↑(1 * b.length) : Int)), AV.ptr 2 0, vU, vI 0, vI 2, vJ, vJ, vJ, vJ, vJ, vJ, vJ, vJ, vJ, vU], ob := [(0, AO.row ks a), (1, AO.row ks (mkS mkT 1 n b.length)), (2, AO.box [AV.ows 0, AV.ows 1])], nx := 1000000, ps := [some 0, some 1] }) False) := by kernel_rfl
theorem b89_2 (L : Lp) (R : Option Res → Prop) (N : St → Prop) (a b : List (Elem ks)) (n : Int) : (evP E89 G89 L (lp89 2) (st89 a b n 2) (rk89 L R 2 N)) = (
    R (some { av := vI n, obs := [AO.row ks a, AO.row ks b], outs := [some 0, some 1] })) := by kernel_rfl
theorem h89 : G1Ok Tryz.prog 89 g89 := by
  intro args obs k h
  unfold g89 at h
  split at h
  · rename_i k n a b
    obtain ⟨ha, hb, h⟩ := brb2 h
    refine ⟨_, ctr_fn ok1 hg89 Tryz.func89 (by kernel_rfl) (by kernel_rfl) (by kernel_rfl) fun C => ?_, h⟩
    rw [e89]
    refine loopSeq okf89 hg89 (fun | 0 => st89 a b n 0 | 1 => st89 (mkA n a) b (nxA n a) 1 | _ => st89 (mkA n a) (mkA (nxA n a) b) (nxA (nxA n a) b) 2) 2 (fun N i hi next => ?_) (fun N => ?_)
    · have cs : i = 0 ∨ i = 1 := by omega
      rcases cs with rfl | rfl
      · show evP E89 G89 _ (lp89 2) (st89 a b n 0) (rk89 _ _ 2 _)
        rw [b89_0]
        exact br_t ha next
      · show evP E89 G89 _ (lp89 2) (st89 (mkA n a) b (nxA n a) 1) (rk89 _ _ 2 _)
        rw [b89_1]
        exact br_t hb next
    · show evP E89 G89 _ (lp89 2) (st89 (mkA n a) (mkA (nxA n a) b) (nxA (nxA n a) b) 2) (rk89 _ _ 2 _)
      rw [b89_2]
  · exact h.elim
noncomputable def E32 : Env := E1.of Tryz.f32
noncomputable def G32 : Gk := gk [(89, g89), (90, g90)]
noncomputable def lp32 (n : Nat) : Code := (loopOf n (codeOf Tryz.f32)).getD .skip
noncomputable def ct32 (L : Lp) (R : Option Res → Prop) (n : Nat) : Kt := contOf E32 G32 L n (codeOf Tryz.f32) (endK E32 Tryz.f32.results.toList R)
noncomputable def rk32 (L : Lp) (R : Option Res → Prop) (n : Nat) (N : St → Prop) : Kt := rk (jof E32 (lp32 n)) N (ct32 L R n)
noncomputable def rkn32 (L : Lp) (R : Option Res → Prop) (n : Nat) (N : St → Prop) (m : Nat) (N2 : St → Prop) : Kt := rk (jof E32 (lp32 m)) N2 (contOf E32 G32 L m (lp32 n) (rk32 L R n N))
noncomputable def LOOPN32 (L : Lp) (R : Option Res → Prop) (n : Nat) (N : St → Prop) (m : Nat) (st : St) : Prop := L (lp32 m) st (contOf E32 G32 L m (lp32 n) (rk32 L R n N))
noncomputable def LOOP32 (L : Lp) (R : Option Res → Prop) (n : Nat) (st : St) : Prop := L (lp32 n) st (ct32 L R n)
theorem hg32 : HG Tryz.prog G32 := (hg_cons h89 (hg_cons h90 hg_nil))
theorem okf32 : Ok Tryz.prog E32 := ok1.of Tryz.f32
theorem e32 (L : Lp) (R : Option Res → Prop) (a b : List (Elem ks)) (c : List (Elem kl)) (n : Int) : (bodyP E1 G32 L Tryz.f32 [.agg [.ows 0, .ows 1, .ows 2], .val (.int .i64 n)] [.row ks a, .row ks b, .row kl c] R) = (
    br (inM n a.length && inM (nxA n a) b.length) (br (inM (nxA (nxA n a) b) c.length) (R (some { av := vI (nxA (nxA n a) b + (↑(3 * c.length) : Int)), obs := [AO.row ks (mkA n a), AO.row ks (mkA (nxA n a) b), AO.row kl (mkS mkDl 3 (nxA (nxA n a) b) c.length)], outs := [some 0, some 1, some 2] })) False) False) := by kernel_rfl
theorem h32 : G1Ok Tryz.prog 32 g32 := by
  intro args obs k h
  unfold g32 at h
  split at h
  · rename_i k n a b c
    unfold inMD at h
    obtain ⟨hp, hc, h⟩ := brb2 h
    refine ⟨_, ctr_fn ok1 hg32 Tryz.func32 (by kernel_rfl) (by kernel_rfl) (by kernel_rfl) fun C => ?_, h⟩
    rw [e32]
    exact br_t hp (br_t hc rfl)
  · exact h.elim
end Go.Proofs.YtkjnijddbiconaaGreatDoor.Ev
