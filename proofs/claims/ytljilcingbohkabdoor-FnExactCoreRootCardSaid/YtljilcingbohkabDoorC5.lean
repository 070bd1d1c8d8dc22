/- Parts of a valid core: names, places, counts: contracts. -/
import Derived.Test.YtljilcingbohkabDoorC4
namespace Go.Proofs.YtljilcingbohkabDoor.Ev
open Go
set_option linter.unusedVariables false
set_option linter.unusedSimpArgs false
set_option maxRecDepth 100000
def bkOf (e : Elem kc) : Elem kb := (e.1, e.2.1, e.2.2.1, ByteArray.empty, ByteArray.empty, ByteArray.empty, ByteArray.empty, ByteArray.empty, ByteArray.empty, ByteArray.empty, ByteArray.empty, ())
def bkS (s : List (Elem kc)) : List (Elem kb) := s.map bkOf
def g55 : G1
  | [.agg us], [], k => match coreOf us with
    | some c => br (smCo c) (k ⟨.agg [.ows 0], [.row kb (bkS c.2.1)], []⟩) False
    | none => False
  | _, _, _ => False
def lnD (xs : List (Elem k3)) (t : Int) : Nat := ln (fun i => decide ((atP xs i).2.1 < t)) xs.length
def okD (xs : List (Elem k3)) (t : Int) : Bool := decide (lnD xs t < xs.length) && ((atP xs (lnD xs t)).2.1 == t)
def g114 : G1
  | [.rsl [.int .i64, .int .i64, .int .i64] xs, .val (.int .i64 t)], [], k => br (decide (xs.length ≤ 1048576)) (k ⟨.tup [.val (.int .i64 (lnD xs t)), .val (.bool (okD xs t))], [], []⟩) False
  | _, _, _ => False
def g158 : G1
  | [.agg [.val (.int .i64 a), .val (.int .i64 b), .val (.int .i64 c)], .val (.int .i64 t)], [], k => k ⟨.val (.int .i64 (IntKind.i64.wrap (b - t))), [], []⟩
  | _, _, _ => False
def bsD (xs : List (Elem k3)) (t : Int) : Nat := bsf (fun i => decide (IntKind.i64.wrap ((atP xs i).2.1 - t) < 0)) 0 xs.length
def bkD (xs : List (Elem k3)) (t : Int) : Bool := decide (bsD xs t < xs.length) && (IntKind.i64.wrap ((atP xs (bsD xs t)).2.1 - t) == 0)
def g157 : G1
  | [.rsl [.int .i64, .int .i64, .int .i64] xs, .val (.int .i64 t), .fn 158 []], [], k => br (decide (xs.length ≤ 1048576)) (k ⟨.tup [.val (.int .i64 (bsD xs t)), .val (.bool (bkD xs t))], [], []⟩) False
  | _, _, _ => False
def g129 : G1
  | [.rsl [.int .i64, .int .i64, .int .i64] xs, .val (.int .i64 t)], [], k => br (decide (xs.length ≤ 1048576)) (k ⟨.tup [.val (.int .i64 (bsD xs t)), .val (.bool (bkD xs t))], [], []⟩) False
  | _, _, _ => False
abbrev atI (xs : List (Elem ki)) (i : Nat) : Int := (xs.getD i (edflt ki)).1
def plc1 (f : List (Elem ki)) (i : Nat) : Bool := decide (13 ≤ atI f i) && decide (atI f i ≤ 119) && (i == 0 || decide (atI f (i - 1) < atI f i))
def plcs (f : List (Elem ki)) : Bool := allB f.length (plc1 f)
def g51 : G1
  | [.rsl [.int .i64] f], [], k => br (decide (f.length ≤ 1048576)) (k ⟨.val (.bool (plcs f)), [], []⟩) False
  | _, _, _ => False
noncomputable def E55 : Env := Ef.of Tryd.f55
noncomputable def G55 : Gk := gk []
noncomputable def lp55 (n : Nat) : Code := (loopOf n (codeOf Tryd.f55)).getD .skip
noncomputable def ct55 (L : Lp) (R : Option Res → Prop) (n : Nat) : Kt := contOf E55 G55 L n (codeOf Tryd.f55) (endK E55 Tryd.f55.results.toList R)
noncomputable def rk55 (L : Lp) (R : Option Res → Prop) (n : Nat) (N : St → Prop) : Kt := rk (jof E55 (lp55 n)) N (ct55 L R n)
noncomputable def rkn55 (L : Lp) (R : Option Res → Prop) (n : Nat) (N : St → Prop) (m : Nat) (N2 : St → Prop) : Kt := rk (jof E55 (lp55 m)) N2 (contOf E55 G55 L m (lp55 n) (rk55 L R n N))
noncomputable def LOOPN55 (L : Lp) (R : Option Res → Prop) (n : Nat) (N : St → Prop) (m : Nat) (st : St) : Prop := L (lp55 m) st (contOf E55 G55 L m (lp55 n) (rk55 L R n N))
noncomputable def LOOP55 (L : Lp) (R : Option Res → Prop) (n : Nat) (st : St) : Prop := L (lp55 n) st (ct55 L R n)
theorem hg55 : HG Tryd.prog G55 := hg_nil
theorem okf55 : Ok Tryd.prog E55 := okf.of Tryd.f55
theorem e55 (L : Lp) (R : Option Res → Prop) (x : Int) (s : List (Elem kc)) (d p : List (Elem k3)) (b : Bool) (f : List (Elem ki)) (n : Int) : (bodyP Ef G55 L Tryd.f55 [coreAV x s d p b f n] [] R) = (
    LOOP55 L R 3 { tm := [vJ, AV.ptr 0 0, AV.ptr 1 0, AV.ptr 3 0, vI 0, vJ, vJ, vJ, vJ, vJ, vJ, vJ, vJ, vJ, vJ, vJ, vJ, vJ, vJ, vJ, vJ, vJ, vJ, vJ, vJ, vJ, vJ, vJ, vJ, vJ, vJ, vJ, vJ, vJ, vJ, vJ, vJ, vJ], ob := [(0, AO.box [vI x, AV.rsl kc s, AV.rsl k3 d, AV.rsl k3 p, vB b, AV.rsl ki f, vI n]), (1, AO.box [AV.ows 2]), (2, AO.row kb []), (3, AO.box [AV.ows 4]), (4, AO.row kb [])], nx := 1000000, ps := [] }) := by kernel_rfl
def st55 (x : Int) (s : List (Elem kc)) (d p : List (Elem k3)) (b : Bool) (f : List (Elem ki)) (n : Int) (i : Int) (ys : List (Elem kb)) : St :=  ⟨[vJ, AV.ptr 0 0, AV.ptr 1 0, AV.ptr 3 0, .val (.int .i64 i), vJ, vJ, vJ, vJ, vJ, vJ, vJ, vJ, vJ, vJ, vJ, vJ, vJ, vJ, vJ, vJ, vJ, vJ, vJ, vJ, vJ, vJ, vJ, vJ, vJ, vJ, vJ, vJ, vJ, vJ, vJ, vJ, vJ], [(0, AO.box [vI x, AV.rsl kc s, AV.rsl k3 d, AV.rsl k3 p, vB b, AV.rsl ki f, vI n]), (1, AO.box [AV.ows 2]), (2, AO.row kb []), (3, AO.box [AV.ows 4]), (4, .row kb ys)], 1000000, []⟩
theorem b55 (L : Lp) (R : Option Res → Prop) (N : St → Prop) (x : Int) (s : List (Elem kc)) (d p : List (Elem k3)) (b : Bool) (f : List (Elem ki)) (n : Int) (i : Int) (ys : List (Elem kb)) : (evP E55 G55 L (lp55 3) (st55 x s d p b f n i ys) (rk55 L R 3 N)) = (
    br (decide (i < (↑s.length : Int))) (br (decide (0 ≤ i ∧ i < (↑s.length : Int))) (br (decide (0 ≤ i ∧ i < (↑s.length : Int))) (br (decide (0 ≤ i ∧ i < (↑s.length : Int))) (br (decide ((ys.length + [((s.getD i.toNat (edflt kc)).fst, (s.getD i.toNat (edflt kc)).snd.fst, (s.getD i.toNat (edflt kc)).snd.snd.fst, ByteArray.empty, ByteArray.empty, ByteArray.empty, ByteArray.empty, ByteArray.empty, ByteArray.empty, ByteArray.empty, ByteArray.empty, ())].length) * 168 ≤ 140737488355328)) (N { tm := [vJ, AV.ptr 0 0, AV.ptr 1 0, AV.ptr 3 0, vI (IntKind.i64.wrap (i + 1)), vJ, vJ, vJ, vJ, vJ, vJ, vJ, vJ, vJ, vJ, vJ, vJ, vJ, vJ, vJ, vJ, vJ, vJ, vJ, vJ, vJ, vJ, vJ, vJ, vJ, vJ, vJ, vJ, vJ, vJ, vJ, vJ, vJ], ob := [(0, AO.box [vI x, AV.rsl kc s, AV.rsl k3 d, AV.rsl k3 p, vB b, AV.rsl ki f, vI n]), (1, AO.box [AV.ows 2]), (2, AO.row kb []), (3, AO.box [AV.ows 4]), (4, AO.row kb (ys ++ [((s.getD i.toNat (edflt kc)).fst, (s.getD i.toNat (edflt kc)).snd.fst, (s.getD i.toNat (edflt kc)).snd.snd.fst, ByteArray.empty, ByteArray.empty, ByteArray.empty, ByteArray.empty, ByteArray.empty, ByteArray.empty, ByteArray.empty, ByteArray.empty, ())]))], nx := 1000000, ps := [] }) False) False) False) False) (R (some { av := AV.agg [AV.ows 0], obs := [AO.row kb ys], outs := [] }))) := by kernel_rfl
theorem map_take {α β : Type} (g : α → β) (s : List α) (dd : α) {i : Nat} (hi : i < s.length) : (s.map g).take (i + 1) = (s.map g).take i ++ [g (s.getD i dd)] := by
  rw [List.take_add_one, List.getD_eq_getElem?_getD, List.getElem?_eq_getElem hi, List.getElem?_map, List.getElem?_eq_getElem hi]
  rfl
theorem smCo_s {x : Int} {s : List (Elem kc)} {d p : List (Elem k3)} {b : Bool} {f : List (Elem ki)} {n : Int} (h : smCo (x, s, d, p, b, f, n) = true) : s.length ≤ 1048576 := by
  simp only [smCo, Bool.and_eq_true, decide_eq_true_eq] at h
  exact h.1.1.1
theorem smCo_d {x : Int} {s : List (Elem kc)} {d p : List (Elem k3)} {b : Bool} {f : List (Elem ki)} {n : Int} (h : smCo (x, s, d, p, b, f, n) = true) : d.length ≤ 1048576 := by
  simp only [smCo, Bool.and_eq_true, decide_eq_true_eq] at h
  exact h.1.1.2
theorem smCo_p {x : Int} {s : List (Elem kc)} {d p : List (Elem k3)} {b : Bool} {f : List (Elem ki)} {n : Int} (h : smCo (x, s, d, p, b, f, n) = true) : p.length ≤ 1048576 := by
  simp only [smCo, Bool.and_eq_true, decide_eq_true_eq] at h
  exact h.1.2
theorem smCo_f {x : Int} {s : List (Elem kc)} {d p : List (Elem k3)} {b : Bool} {f : List (Elem ki)} {n : Int} (h : smCo (x, s, d, p, b, f, n) = true) : f.length ≤ 1048576 := by
  simp only [smCo, Bool.and_eq_true, decide_eq_true_eq] at h
  exact h.2
theorem h55 : G1Ok Tryd.prog 55 g55 := by
  intro args obs k h
  unfold g55 at h
  split at h
  · rename_i k us
    split at h
    rotate_left
    · exact h.elim
    rename_i c hc
    obtain rfl := coreOf_inv hc
    obtain ⟨x, s, d, p, b, f, n⟩ := c
    obtain ⟨hp, h⟩ := br_and h
    have hl : s.length ≤ 1048576 := smCo_s hp
    refine ⟨_, ctr_fn okf hg55 Tryd.func55 (by kernel_rfl) (by kernel_rfl) (by kernel_rfl) fun C => ?_, h⟩
    show bodyP Ef G55 _ Tryd.f55 [coreAV x s d p b f n] [] _
    rw [e55]
    refine loopUp okf55 hg55 (fun i ys => st55 x s d p b f n i ys) s.length (fun i ys => ys = (bkS s).take i) (fun N i ys hi hy next => ?_) [] rfl
    show evP E55 G55 _ (lp55 3) (st55 x s d p b f n i ys) (rk55 _ _ 3 _)
    rw [b55, wrap_id (n := (i : Int) + 1) (by omega) (by omega), Int.toNat_natCast]
    have hyl : ys.length ≤ 1048576 := by rw [hy, List.length_take]; unfold bkS; rw [List.length_map]; omega
    refine br_dec (fun h2 => ?_) (fun h2 => ?_)
    · refine br_yes ⟨by omega, h2⟩ (br_yes ⟨by omega, h2⟩ (br_yes ⟨by omega, h2⟩ (br_yes ?_ ?_)))
      · show (ys.length + 1) * 168 ≤ _
        omega
      · exact next (by omega) _ (by rw [hy]; exact (map_take bkOf s (edflt kc) (by omega)).symm)
    · show _ = _
      rw [hy, List.take_of_length_le (by unfold bkS; rw [List.length_map]; omega)]
  · exact h.elim
noncomputable def E71 : Env := Ef.of Tryd.f71
noncomputable def G71 : Gk := gk []
noncomputable def lp71 (n : Nat) : Code := (loopOf n (codeOf Tryd.f71)).getD .skip
noncomputable def ct71 (L : Lp) (R : Option Res → Prop) (n : Nat) : Kt := contOf E71 G71 L n (codeOf Tryd.f71) (endK E71 Tryd.f71.results.toList R)
noncomputable def rk71 (L : Lp) (R : Option Res → Prop) (n : Nat) (N : St → Prop) : Kt := rk (jof E71 (lp71 n)) N (ct71 L R n)
noncomputable def rkn71 (L : Lp) (R : Option Res → Prop) (n : Nat) (N : St → Prop) (m : Nat) (N2 : St → Prop) : Kt := rk (jof E71 (lp71 m)) N2 (contOf E71 G71 L m (lp71 n) (rk71 L R n N))
noncomputable def LOOPN71 (L : Lp) (R : Option Res → Prop) (n : Nat) (N : St → Prop) (m : Nat) (st : St) : Prop := L (lp71 m) st (contOf E71 G71 L m (lp71 n) (rk71 L R n N))
noncomputable def LOOP71 (L : Lp) (R : Option Res → Prop) (n : Nat) (st : St) : Prop := L (lp71 n) st (ct71 L R n)
theorem hg71 : HG Tryd.prog G71 := hg_nil
theorem okf71 : Ok Tryd.prog E71 := okf.of Tryd.f71
theorem e71 (L : Lp) (R : Option Res → Prop) (x : Int) (s : List (Elem kc)) (d p : List (Elem k3)) (b : Bool) (f : List (Elem ki)) (n : Int) : (bodyP Ef G71 L Tryd.f71 [coreAV x s d p b f n] [] R) = (
    LOOP71 L R 3 { tm := [vJ, vJ, AV.ptr 0 0, AV.ptr 2 0, vJ, vJ, vJ, AV.rsl kc s, vI (↑s.length : Int), vI 0, vJ, vJ, vJ, vJ, vJ, vJ, vJ, vJ, vJ, vJ, vJ, vJ, vJ, vJ, vJ, vJ, vJ], ob := [(0, AO.box [AV.ows 1]), (1, AO.row kb []), (2, AO.box [AV.ows 3]), (3, AO.row kb [])], nx := 1000000, ps := [] }) := by kernel_rfl
def st71 (x : Int) (s : List (Elem kc)) (d p : List (Elem k3)) (b : Bool) (f : List (Elem ki)) (n : Int) (i : Int) (ys : List (Elem kb)) : St :=  ⟨[vJ, vJ, AV.ptr 0 0, AV.ptr 2 0, vJ, vJ, vJ, AV.rsl kc s, vI (↑s.length : Int), .val (.int .i64 i), vJ, vJ, vJ, vJ, vJ, vJ, vJ, vJ, vJ, vJ, vJ, vJ, vJ, vJ, vJ, vJ, vJ], [(0, AO.box [AV.ows 1]), (1, AO.row kb []), (2, AO.box [AV.ows 3]), (3, .row kb ys)], 1000000, []⟩
theorem b71 (L : Lp) (R : Option Res → Prop) (N : St → Prop) (x : Int) (s : List (Elem kc)) (d p : List (Elem k3)) (b : Bool) (f : List (Elem ki)) (n : Int) (i : Int) (ys : List (Elem kb)) : (evP E71 G71 L (lp71 3) (st71 x s d p b f n i ys) (rk71 L R 3 N)) = (
    br (decide (i < (↑s.length : Int))) (br (decide (0 ≤ i ∧ i < (↑s.length : Int))) (br (decide ((ys.length + [((s.getD i.toNat (edflt kc)).fst, (s.getD i.toNat (edflt kc)).snd.fst, (s.getD i.toNat (edflt kc)).snd.snd.fst, ByteArray.empty, ByteArray.empty, ByteArray.empty, ByteArray.empty, ByteArray.empty, ByteArray.empty, ByteArray.empty, ByteArray.empty, ())].length) * 168 ≤ 140737488355328)) (N { tm := [vJ, vJ, AV.ptr 0 0, AV.ptr 2 0, vJ, vJ, vJ, AV.rsl kc s, vI (↑s.length : Int), vI (IntKind.i64.wrap (i + 1)), vJ, vJ, vJ, vJ, vJ, vJ, vJ, vJ, vJ, vJ, vJ, vJ, vJ, vJ, vJ, vJ, vJ], ob := [(0, AO.box [AV.ows 1]), (1, AO.row kb []), (2, AO.box [AV.ows 3]), (3, AO.row kb (ys ++ [((s.getD i.toNat (edflt kc)).fst, (s.getD i.toNat (edflt kc)).snd.fst, (s.getD i.toNat (edflt kc)).snd.snd.fst, ByteArray.empty, ByteArray.empty, ByteArray.empty, ByteArray.empty, ByteArray.empty, ByteArray.empty, ByteArray.empty, ByteArray.empty, ())]))], nx := 1000000, ps := [] }) False) False) (R (some { av := AV.agg [AV.ows 0], obs := [AO.row kb ys], outs := [] }))) := by kernel_rfl
theorem h71 : G1Ok Tryd.prog 71 g55 := by
  intro args obs k h
  unfold g55 at h
  split at h
  · rename_i k us
    split at h
    rotate_left
    · exact h.elim
    rename_i c hc
    obtain rfl := coreOf_inv hc
    obtain ⟨x, s, d, p, b, f, n⟩ := c
    obtain ⟨hp, h⟩ := br_and h
    have hl : s.length ≤ 1048576 := smCo_s hp
    refine ⟨_, ctr_fn okf hg71 Tryd.func71 (by kernel_rfl) (by kernel_rfl) (by kernel_rfl) fun C => ?_, h⟩
    show bodyP Ef G71 _ Tryd.f71 [coreAV x s d p b f n] [] _
    rw [e71]
    refine loopUp okf71 hg71 (fun i ys => st71 x s d p b f n i ys) s.length (fun i ys => ys = (bkS s).take i) (fun N i ys hi hy next => ?_) [] rfl
    show evP E71 G71 _ (lp71 3) (st71 x s d p b f n i ys) (rk71 _ _ 3 _)
    rw [b71, wrap_id (n := (i : Int) + 1) (by omega) (by omega), Int.toNat_natCast]
    have hyl : ys.length ≤ 1048576 := by rw [hy, List.length_take]; unfold bkS; rw [List.length_map]; omega
    refine br_dec (fun h2 => ?_) (fun h2 => ?_)
    · refine br_yes ⟨by omega, h2⟩ (br_yes ?_ ?_)
      · show (ys.length + 1) * 168 ≤ _
        omega
      · exact next (by omega) _ (by rw [hy]; exact (map_take bkOf s (edflt kc) (by omega)).symm)
    · show _ = _
      rw [hy, List.take_of_length_le (by unfold bkS; rw [List.length_map]; omega)]
  · exact h.elim
noncomputable def E114 : Env := Ef.of Tryd.f114
noncomputable def G114 : Gk := gk []
noncomputable def lp114 (n : Nat) : Code := (loopOf n (codeOf Tryd.f114)).getD .skip
noncomputable def ct114 (L : Lp) (R : Option Res → Prop) (n : Nat) : Kt := contOf E114 G114 L n (codeOf Tryd.f114) (endK E114 Tryd.f114.results.toList R)
noncomputable def rk114 (L : Lp) (R : Option Res → Prop) (n : Nat) (N : St → Prop) : Kt := rk (jof E114 (lp114 n)) N (ct114 L R n)
noncomputable def rkn114 (L : Lp) (R : Option Res → Prop) (n : Nat) (N : St → Prop) (m : Nat) (N2 : St → Prop) : Kt := rk (jof E114 (lp114 m)) N2 (contOf E114 G114 L m (lp114 n) (rk114 L R n N))
noncomputable def LOOPN114 (L : Lp) (R : Option Res → Prop) (n : Nat) (N : St → Prop) (m : Nat) (st : St) : Prop := L (lp114 m) st (contOf E114 G114 L m (lp114 n) (rk114 L R n N))
noncomputable def LOOP114 (L : Lp) (R : Option Res → Prop) (n : Nat) (st : St) : Prop := L (lp114 n) st (ct114 L R n)
theorem hg114 : HG Tryd.prog G114 := hg_nil
theorem okf114 : Ok Tryd.prog E114 := okf.of Tryd.f114
theorem e114 (L : Lp) (R : Option Res → Prop) (xs : List (Elem k3)) (t : Int) : (bodyP Ef G114 L Tryd.f114 [.rsl k3 xs, .val (.int .i64 t)] [] R) = (
    LOOP114 L R 2 { tm := [AV.rsl k3 xs, vI t, vJ, vJ, vJ, vJ, vI 0, vJ, vJ, vJ, vJ, vJ, vJ, vJ, vJ, vJ, vJ, vJ, vJ, vJ, vJ, vJ, vJ, vJ, vJ, vJ, vJ, vJ, vJ, vJ, vJ, vJ, vJ, vJ, vJ, vJ], ob := [], nx := 1000000, ps := [] }) := by kernel_rfl
def st114 (xs : List (Elem k3)) (t i : Int) : St :=  ⟨[AV.rsl k3 xs, vI t, vJ, vJ, vJ, vJ, .val (.int .i64 i), vJ, vJ, vJ, vJ, vJ, vJ, vJ, vJ, vJ, vJ, vJ, vJ, vJ, vJ, vJ, vJ, vJ, vJ, vJ, vJ, vJ, vJ, vJ, vJ, vJ, vJ, vJ, vJ, vJ], [], 1000000, []⟩
theorem b114 (L : Lp) (R : Option Res → Prop) (N : St → Prop) (xs : List (Elem k3)) (t i : Int) : (evP E114 G114 L (lp114 2) (st114 xs t i) (rk114 L R 2 N)) = (
    br (decide (i < (↑xs.length : Int))) (br (decide (0 ≤ i ∧ i < (↑xs.length : Int))) (br (decide ((xs.getD i.toNat (edflt k3)).snd.fst < t)) (N { tm := [AV.rsl k3 xs, vI t, vJ, vJ, vJ, vJ, vI (IntKind.i64.wrap (i + 1)), vJ, vJ, vJ, vJ, vJ, vJ, vJ, vJ, vJ, vJ, vJ, vJ, vJ, vJ, vJ, vJ, vJ, vJ, vJ, vJ, vJ, vJ, vJ, vJ, vJ, vJ, vJ, vJ, vJ], ob := [], nx := 1000000, ps := [] }) (br (decide (i < (↑xs.length : Int))) (br (decide (0 ≤ i ∧ i < (↑xs.length : Int))) (R (some { av := AV.tup [vI i, vB ((xs.getD i.toNat (edflt k3)).snd.fst == t)], obs := [], outs := [] })) False) (R (some { av := AV.tup [vI i, vB false], obs := [], outs := [] })))) False) (br (decide (i < (↑xs.length : Int))) (br (decide (0 ≤ i ∧ i < (↑xs.length : Int))) (R (some { av := AV.tup [vI i, vB ((xs.getD i.toNat (edflt k3)).snd.fst == t)], obs := [], outs := [] })) False) (R (some { av := AV.tup [vI i, vB false], obs := [], outs := [] })))) := by kernel_rfl
theorem h114 : G1Ok Tryd.prog 114 g114 := by
  intro args obs k h
  unfold g114 at h
  split at h
  · rename_i k xs t
    obtain ⟨hl, h⟩ := brd h
    refine ⟨_, ctr_fn okf hg114 Tryd.func114 (by kernel_rfl) (by kernel_rfl) (by kernel_rfl) fun C => ?_, h⟩
    rw [e114]
    refine loopLn okf114 hg114 (fun i => st114 xs t i) xs.length (fun i => decide ((atP xs i).2.1 < t)) (by omega) (fun N i hi hw next stop last => ?_)
    show evP E114 G114 _ (lp114 2) (st114 xs t i) (rk114 _ _ 2 _)
    rw [b114, hw, Int.toNat_natCast]
    refine br_dec (fun h2 => br_yes ⟨by omega, h2⟩ (br_dec (fun h3 => ?_) (fun h3 => br_yes h2 (br_yes ⟨by omega, h2⟩ ?_)))) (fun h2 => br_no h2 ?_)
    · exact next (by omega) (decide_eq_true h3)
    · show _ = _
      have e : lnD xs t = i := stop (by omega) (decide_eq_false h3)
      unfold okD
      rw [e, decide_eq_true (show i < xs.length by omega), Bool.true_and]
    · show _ = _
      have e : lnD xs t = i := last (by omega)
      unfold okD
      rw [e, decide_eq_false (show ¬ i < xs.length by omega), Bool.false_and]
  · exact h.elim
noncomputable def E158 : Env := Ef.of Tryd.f158
noncomputable def G158 : Gk := gk []
noncomputable def lp158 (n : Nat) : Code := (loopOf n (codeOf Tryd.f158)).getD .skip
noncomputable def ct158 (L : Lp) (R : Option Res → Prop) (n : Nat) : Kt := contOf E158 G158 L n (codeOf Tryd.f158) (endK E158 Tryd.f158.results.toList R)
noncomputable def rk158 (L : Lp) (R : Option Res → Prop) (n : Nat) (N : St → Prop) : Kt := rk (jof E158 (lp158 n)) N (ct158 L R n)
noncomputable def rkn158 (L : Lp) (R : Option Res → Prop) (n : Nat) (N : St → Prop) (m : Nat) (N2 : St → Prop) : Kt := rk (jof E158 (lp158 m)) N2 (contOf E158 G158 L m (lp158 n) (rk158 L R n N))
noncomputable def LOOPN158 (L : Lp) (R : Option Res → Prop) (n : Nat) (N : St → Prop) (m : Nat) (st : St) : Prop := L (lp158 m) st (contOf E158 G158 L m (lp158 n) (rk158 L R n N))
noncomputable def LOOP158 (L : Lp) (R : Option Res → Prop) (n : Nat) (st : St) : Prop := L (lp158 n) st (ct158 L R n)
theorem hg158 : HG Tryd.prog G158 := hg_nil
theorem okf158 : Ok Tryd.prog E158 := okf.of Tryd.f158
theorem e158 (L : Lp) (R : Option Res → Prop) (a b c t : Int) : (bodyP Ef G158 L Tryd.f158 [.agg [.val (.int .i64 a), .val (.int .i64 b), .val (.int .i64 c)], .val (.int .i64 t)] [] R) = (
    R (some { av := vI (IntKind.i64.wrap (b - t)), obs := [], outs := [] })) := by kernel_rfl
theorem h158 : G1Ok Tryd.prog 158 g158 := by
  intro args obs k h
  unfold g158 at h
  split at h
  · rename_i k a b c t
    refine ⟨_, ctr_fn okf hg158 Tryd.func158 (by kernel_rfl) (by kernel_rfl) (by kernel_rfl) fun C => ?_, h⟩
    rw [e158]
  · exact h.elim
noncomputable def E157 : Env := Ef.of Tryd.f157
noncomputable def G157 : Gk := gk [(158, g158)]
noncomputable def lp157 (n : Nat) : Code := (loopOf n (codeOf Tryd.f157)).getD .skip
noncomputable def ct157 (L : Lp) (R : Option Res → Prop) (n : Nat) : Kt := contOf E157 G157 L n (codeOf Tryd.f157) (endK E157 Tryd.f157.results.toList R)
noncomputable def rk157 (L : Lp) (R : Option Res → Prop) (n : Nat) (N : St → Prop) : Kt := rk (jof E157 (lp157 n)) N (ct157 L R n)
noncomputable def rkn157 (L : Lp) (R : Option Res → Prop) (n : Nat) (N : St → Prop) (m : Nat) (N2 : St → Prop) : Kt := rk (jof E157 (lp157 m)) N2 (contOf E157 G157 L m (lp157 n) (rk157 L R n N))
noncomputable def LOOPN157 (L : Lp) (R : Option Res → Prop) (n : Nat) (N : St → Prop) (m : Nat) (st : St) : Prop := L (lp157 m) st (contOf E157 G157 L m (lp157 n) (rk157 L R n N))
noncomputable def LOOP157 (L : Lp) (R : Option Res → Prop) (n : Nat) (st : St) : Prop := L (lp157 n) st (ct157 L R n)
theorem hg157 : HG Tryd.prog G157 := (hg_cons h158 hg_nil)
theorem okf157 : Ok Tryd.prog E157 := okf.of Tryd.f157
theorem e157 (L : Lp) (R : Option Res → Prop) (xs : List (Elem k3)) (t : Int) : (bodyP Ef G157 L Tryd.f157 [.rsl k3 xs, .val (.int .i64 t), .fn 158 []] [] R) = (
    LOOP157 L R 3 { tm := [AV.rsl k3 xs, vI t, AV.fn 158 [], vJ, vJ, vJ, vJ, vJ, vI (↑xs.length : Int), vI 0, vI (↑xs.length : Int), vJ, vJ, vJ, vJ, vJ, vJ, vJ, vJ, vJ, vJ, vJ, vJ, vJ, vJ, vJ, vJ, vJ, vJ, vJ, vJ, vJ, vJ, vJ, vJ, vJ, vJ, vJ, vJ, vJ, vJ, vJ, vJ, vJ, vJ, vJ, vJ, vJ, vJ], ob := [], nx := 1000000, ps := [] }) := by kernel_rfl
def st157 (xs : List (Elem k3)) (t i j : Int) : St :=  ⟨[AV.rsl k3 xs, vI t, AV.fn 158 [], vJ, vJ, vJ, vJ, vJ, vI (↑xs.length : Int), .val (.int .i64 i), .val (.int .i64 j), vJ, vJ, vJ, vJ, vJ, vJ, vJ, vJ, vJ, vJ, vJ, vJ, vJ, vJ, vJ, vJ, vJ, vJ, vJ, vJ, vJ, vJ, vJ, vJ, vJ, vJ, vJ, vJ, vJ, vJ, vJ, vJ, vJ, vJ, vJ, vJ, vJ, vJ], [], 1000000, []⟩
theorem b157 (L : Lp) (R : Option Res → Prop) (N : St → Prop) (xs : List (Elem k3)) (t i j : Int) : (evP E157 G157 L (lp157 3) (st157 xs t i j) (rk157 L R 3 N)) = (
    br (decide (i < j)) (br (decide (0 ≤ IntKind.i64.wrap ((IntKind.u64.wrap (IntKind.i64.wrap (i + j))).fdiv 2) ∧ IntKind.i64.wrap ((IntKind.u64.wrap (IntKind.i64.wrap (i + j))).fdiv 2) < (↑xs.length : Int))) (br (decide (IntKind.i64.wrap ((xs.getD (IntKind.i64.wrap ((IntKind.u64.wrap (IntKind.i64.wrap (i + j))).fdiv 2)).toNat (edflt k3)).snd.fst - t) < 0)) (N { tm := [AV.rsl k3 xs, vI t, AV.fn 158 [], vJ, vJ, vJ, vJ, vJ, vI (↑xs.length : Int), vI (IntKind.i64.wrap (IntKind.i64.wrap ((IntKind.u64.wrap (IntKind.i64.wrap (i + j))).fdiv 2) + 1)), vI j, vJ, vJ, vJ, vJ, vJ, vJ, vJ, vJ, vJ, vJ, vJ, vJ, vJ, vJ, vJ, vJ, vJ, vJ, vJ, vJ, vJ, vJ, vJ, vJ, vJ, vJ, vJ, vJ, vJ, vJ, vJ, vJ, vJ, vJ, vJ, vJ, vJ, vJ], ob := [], nx := 1000000, ps := [] }) (N { tm := [AV.rsl k3 xs, vI t, AV.fn 158 [], vJ, vJ, vJ, vJ, vJ, vI (↑xs.length : Int), vI i, vI (IntKind.i64.wrap ((IntKind.u64.wrap (IntKind.i64.wrap (i + j))).fdiv 2)), vJ, vJ, vJ, vJ, vJ, vJ, vJ, vJ, vJ, vJ, vJ, vJ, vJ, vJ, vJ, vJ, vJ, vJ, vJ, vJ, vJ, vJ, vJ, vJ, vJ, vJ, vJ, vJ, vJ, vJ, vJ, vJ, vJ, vJ, vJ, vJ, vJ, vJ], ob := [], nx := 1000000, ps := [] })) False) (br (decide (i < (↑xs.length : Int))) (br (decide (0 ≤ i ∧ i < (↑xs.length : Int))) (R (some { av := AV.tup [vI i, vB (IntKind.i64.wrap ((xs.getD i.toNat (edflt k3)).snd.fst - t) == 0)], obs := [], outs := [] })) False) (R (some { av := AV.tup [vI i, vB false], obs := [], outs := [] })))) := by kernel_rfl
theorem h157 : G1Ok Tryd.prog 157 g157 := by
  intro args obs k h
  unfold g157 at h
  split at h
  · rename_i k xs t
    obtain ⟨hl, h⟩ := brd h
    refine ⟨_, ctr_fn okf hg157 Tryd.func157 (by kernel_rfl) (by kernel_rfl) (by kernel_rfl) fun C => ?_, h⟩
    rw [e157]
    refine loopBs okf157 hg157 (fun i j => st157 xs t i j) xs.length (fun i => decide (IntKind.i64.wrap ((atP xs i).2.1 - t) < 0)) (by omega) (fun N i j hij hj hm hw yes no done => ?_) _ rfl
    show evP E157 G157 _ (lp157 3) (st157 xs t i j) (rk157 _ _ 3 _)
    rw [b157, hm]
    refine br_dec (fun h2 => ?_) (fun h2 => ?_)
    · rw [hw (by omega), Int.toNat_natCast]
      exact br_yes ⟨by omega, by omega⟩ (br_intro (fun h3 => yes (by omega) h3) (fun h3 => no (by omega) h3))
    · have e : bsD xs t = i := done (by omega)
      refine br_dec (fun h3 => br_yes ⟨by omega, h3⟩ ?_) (fun h3 => ?_)
      · show _ = _
        unfold bkD
        rw [e, decide_eq_true (show i < xs.length by omega), Bool.true_and, Int.toNat_natCast]
      · show _ = _
        unfold bkD
        rw [e, decide_eq_false (show ¬ i < xs.length by omega), Bool.false_and]
  · exact h.elim
noncomputable def E129 : Env := Ef.of Tryd.f129
noncomputable def G129 : Gk := gk [(157, g157)]
noncomputable def lp129 (n : Nat) : Code := (loopOf n (codeOf Tryd.f129)).getD .skip
noncomputable def ct129 (L : Lp) (R : Option Res → Prop) (n : Nat) : Kt := contOf E129 G129 L n (codeOf Tryd.f129) (endK E129 Tryd.f129.results.toList R)
noncomputable def rk129 (L : Lp) (R : Option Res → Prop) (n : Nat) (N : St → Prop) : Kt := rk (jof E129 (lp129 n)) N (ct129 L R n)
noncomputable def rkn129 (L : Lp) (R : Option Res → Prop) (n : Nat) (N : St → Prop) (m : Nat) (N2 : St → Prop) : Kt := rk (jof E129 (lp129 m)) N2 (contOf E129 G129 L m (lp129 n) (rk129 L R n N))
noncomputable def LOOPN129 (L : Lp) (R : Option Res → Prop) (n : Nat) (N : St → Prop) (m : Nat) (st : St) : Prop := L (lp129 m) st (contOf E129 G129 L m (lp129 n) (rk129 L R n N))
noncomputable def LOOP129 (L : Lp) (R : Option Res → Prop) (n : Nat) (st : St) : Prop := L (lp129 n) st (ct129 L R n)
theorem hg129 : HG Tryd.prog G129 := (hg_cons h157 hg_nil)
theorem okf129 : Ok Tryd.prog E129 := okf.of Tryd.f129
theorem e129 (L : Lp) (R : Option Res → Prop) (xs : List (Elem k3)) (t : Int) : (bodyP Ef G129 L Tryd.f129 [.rsl k3 xs, .val (.int .i64 t)] [] R) = (
    br (decide (xs.length ≤ 1048576)) (R (some { av := AV.tup [vI (↑(bsD xs t) : Int), vB (bkD xs t)], obs := [], outs := [] })) False) := by kernel_rfl
theorem h129 : G1Ok Tryd.prog 129 g129 := by
  intro args obs k h
  unfold g129 at h
  split at h
  · rename_i k xs t
    obtain ⟨hl, h⟩ := br_and h
    refine ⟨_, ctr_fn okf hg129 Tryd.func129 (by kernel_rfl) (by kernel_rfl) (by kernel_rfl) fun C => ?_, h⟩
    rw [e129]
    exact br_t hl rfl
  · exact h.elim
noncomputable def E51 : Env := Ef.of Tryd.f51
noncomputable def G51 : Gk := gk []
noncomputable def lp51 (n : Nat) : Code := (loopOf n (codeOf Tryd.f51)).getD .skip
noncomputable def ct51 (L : Lp) (R : Option Res → Prop) (n : Nat) : Kt := contOf E51 G51 L n (codeOf Tryd.f51) (endK E51 Tryd.f51.results.toList R)
noncomputable def rk51 (L : Lp) (R : Option Res → Prop) (n : Nat) (N : St → Prop) : Kt := rk (jof E51 (lp51 n)) N (ct51 L R n)
noncomputable def rkn51 (L : Lp) (R : Option Res → Prop) (n : Nat) (N : St → Prop) (m : Nat) (N2 : St → Prop) : Kt := rk (jof E51 (lp51 m)) N2 (contOf E51 G51 L m (lp51 n) (rk51 L R n N))
noncomputable def LOOPN51 (L : Lp) (R : Option Res → Prop) (n : Nat) (N : St → Prop) (m : Nat) (st : St) : Prop := L (lp51 m) st (contOf E51 G51 L m (lp51 n) (rk51 L R n N))
noncomputable def LOOP51 (L : Lp) (R : Option Res → Prop) (n : Nat) (st : St) : Prop := L (lp51 n) st (ct51 L R n)
theorem hg51 : HG Tryd.prog G51 := hg_nil
theorem okf51 : Ok Tryd.prog E51 := okf.of Tryd.f51
theorem e51 (L : Lp) (R : Option Res → Prop) (f : List (Elem ki)) : (bodyP Ef G51 L Tryd.f51 [.rsl ki f] [] R) = (
    LOOP51 L R 2 { tm := [AV.rsl ki f, vJ, vJ, vI 0, vJ, vJ, vJ, vJ, vJ, vJ, vJ, vJ, vJ, vJ, vJ, vJ, vJ, vJ, vJ, vJ, vJ, vJ, vJ, vJ, vJ, vJ, vJ, vJ, vJ, vJ, vJ, vJ, vJ, vJ, vJ, vJ, vJ, vJ], ob := [], nx := 1000000, ps := [] }) := by kernel_rfl
def st51 (f : List (Elem ki)) (i : Int) : St :=  ⟨[AV.rsl ki f, vJ, vJ, .val (.int .i64 i), vJ, vJ, vJ, vJ, vJ, vJ, vJ, vJ, vJ, vJ, vJ, vJ, vJ, vJ, vJ, vJ, vJ, vJ, vJ, vJ, vJ, vJ, vJ, vJ, vJ, vJ, vJ, vJ, vJ, vJ, vJ, vJ, vJ, vJ], [], 1000000, []⟩
theorem b51 (L : Lp) (R : Option Res → Prop) (N : St → Prop) (f : List (Elem ki)) (i : Int) : (evP E51 G51 L (lp51 2) (st51 f i) (rk51 L R 2 N)) = (
    br (decide (i < (↑f.length : Int))) (br (decide (0 ≤ i ∧ i < (↑f.length : Int))) (br (decide ((f.getD i.toNat (edflt ki)).fst < 13)) (R (some { av := vB false, obs := [], outs := [] })) (br (decide (0 ≤ i ∧ i < (↑f.length : Int))) (br (decide ((f.getD i.toNat (edflt ki)).fst ≥ 120)) (R (some { av := vB false, obs := [], outs := [] })) (br (decide (i > 0)) (br (decide (0 ≤ i ∧ i < (↑f.length : Int))) (br (decide (0 ≤ IntKind.i64.wrap (i - 1) ∧ IntKind.i64.wrap (i - 1) < (↑f.length : Int))) (br (decide ((f.getD i.toNat (edflt ki)).fst ≤ (f.getD (IntKind.i64.wrap (i - 1)).toNat (edflt ki)).fst)) (R (some { av := vB false, obs := [], outs := [] })) (N { tm := [AV.rsl ki f, vJ, vJ, vI (IntKind.i64.wrap (i + 1)), vJ, vJ, vJ, vJ, vJ, vJ, vJ, vJ, vJ, vJ, vJ, vJ, vJ, vJ, vJ, vJ, vJ, vJ, vJ, vJ, vJ, vJ, vJ, vJ, vJ, vJ, vJ, vJ, vJ, vJ, vJ, vJ, vJ, vJ], ob := [], nx := 1000000, ps := [] })) False) False) (N { tm := [AV.rsl ki f, vJ, vJ, vI (IntKind.i64.wrap (i + 1)), vJ, vJ, vJ, vJ, vJ, vJ, vJ, vJ, vJ, vJ, vJ, vJ, vJ, vJ, vJ, vJ, vJ, vJ, vJ, vJ, vJ, vJ, vJ, vJ, vJ, vJ, vJ, vJ, vJ, vJ, vJ, vJ, vJ, vJ], ob := [], nx := 1000000, ps := [] }))) False)) False) (R (some { av := vB true, obs := [], outs := [] }))) := by kernel_rfl
theorem plc_l {f : List (Elem ki)} {i : Nat} (h : atI f i < 13) : plc1 f i = false := by unfold plc1; rw [decide_eq_false (show ¬ 13 ≤ atI f i by omega)]; simp
theorem plc_h {f : List (Elem ki)} {i : Nat} (h : atI f i ≥ 120) : plc1 f i = false := by unfold plc1; rw [decide_eq_false (show ¬ atI f i ≤ 119 by omega)]; simp
theorem plc_o {f : List (Elem ki)} {i : Nat} (h0 : (i : Int) > 0) (h : atI f i ≤ atI f (i - 1)) : plc1 f i = false := by
  unfold plc1
  rw [decide_eq_false (show ¬ atI f (i - 1) < atI f i by omega), show (i == 0) = false from beq_eq_false_iff_ne.2 (by omega)]
  simp
theorem plc_t {f : List (Elem ki)} {i : Nat} (h1 : ¬ atI f i < 13) (h2 : ¬ atI f i ≥ 120) (h3 : i = 0 ∨ atI f (i - 1) < atI f i) : plc1 f i = true := by
  unfold plc1
  rw [decide_eq_true (show 13 ≤ atI f i by omega), decide_eq_true (show atI f i ≤ 119 by omega)]
  rcases h3 with h3 | h3
  · subst h3; rfl
  · rw [decide_eq_true h3]; simp
theorem h51 : G1Ok Tryd.prog 51 g51 := by
  intro args obs k h
  unfold g51 at h
  split at h
  · rename_i k f
    obtain ⟨hl, h⟩ := brd h
    refine ⟨_, ctr_fn okf hg51 Tryd.func51 (by kernel_rfl) (by kernel_rfl) (by kernel_rfl) fun C => ?_, h⟩
    rw [e51]
    refine loopAll okf51 hg51 (fun i => st51 f i) f.length (plc1 f) (by omega) (fun N i hi hw next fails done => ?_)
    show evP E51 G51 _ (lp51 2) (st51 f i) (rk51 _ _ 2 _)
    rw [b51, hw, Int.toNat_natCast]
    refine br_dec (fun h2 => br_yes ⟨by omega, h2⟩ (br_dec (fun h3 => ?_) (fun h3 => br_yes ⟨by omega, h2⟩ (br_dec (fun h4 => ?_) (fun h4 => br_dec (fun h5 => br_yes ⟨by omega, h2⟩ ?_) (fun h5 => ?_)))))) (fun h2 => ?_)
    · show _ = _
      rw [show plcs f = false from fails (by omega) (plc_l h3)]
    · show _ = _
      rw [show plcs f = false from fails (by omega) (plc_h h4)]
    · rw [ix_pred h5 (by omega), Int.toNat_natCast]
      refine br_yes ⟨by omega, by omega⟩ (br_dec (fun h6 => ?_) (fun h6 => ?_))
      · show _ = _
        rw [show plcs f = false from fails (by omega) (plc_o h5 h6)]
      · exact next (by omega) (plc_t h3 h4 (.inr (Int.not_le.1 h6)))
    · exact next (by omega) (plc_t h3 h4 (.inl (by omega)))
    · show _ = _
      rw [show plcs f = true from done (by omega)]
  · exact h.elim
end Go.Proofs.YtljilcingbohkabDoor.Ev
