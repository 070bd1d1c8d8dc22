/- Parts of a valid core: names, places, counts: contracts. -/
import Derived.Test.YtkjnijddbiconaaGreatDoorC4
namespace Go.Proofs.YtkjnijddbiconaaGreatDoor.Ev
open Go
set_option linter.unusedVariables false
set_option linter.unusedSimpArgs false
set_option maxRecDepth 100000
def bkOf (e : Elem kc) : Elem kb := (e.1, e.2.1, e.2.2.1, ByteArray.empty, ByteArray.empty, ByteArray.empty, ByteArray.empty, ByteArray.empty, ByteArray.empty, ByteArray.empty, ByteArray.empty, ())
def bkS (s : List (Elem kc)) : List (Elem kb) := s.map bkOf
def g80 : G1
  | [.agg us], [], k => match coreOf us with
    | some c => br (smCo c) (k ⟨.agg [.ows 0], [.row kb (bkS c.2.1)], []⟩) False
    | none => False
  | _, _, _ => False
def lnD (xs : List (Elem k3)) (t : Int) : Nat := ln (fun i => decide ((atP xs i).2.1 < t)) xs.length
def okD (xs : List (Elem k3)) (t : Int) : Bool := decide (lnD xs t < xs.length) && ((atP xs (lnD xs t)).2.1 == t)
def g72 : G1
  | [.rsl [.int .i64, .int .i64, .int .i64] xs, .val (.int .i64 t)], [], k => br (decide (xs.length ≤ 1048576)) (k ⟨.tup [.val (.int .i64 (lnD xs t)), .val (.bool (okD xs t))], [], []⟩) False
  | _, _, _ => False
def g144 : G1
  | [.agg [.val (.int .i64 a), .val (.int .i64 b), .val (.int .i64 c)], .val (.int .i64 t)], [], k => k ⟨.val (.int .i64 (IntKind.i64.wrap (b - t))), [], []⟩
  | _, _, _ => False
def bsD (xs : List (Elem k3)) (t : Int) : Nat := bsf (fun i => decide (IntKind.i64.wrap ((atP xs i).2.1 - t) < 0)) 0 xs.length
def bkD (xs : List (Elem k3)) (t : Int) : Bool := decide (bsD xs t < xs.length) && (IntKind.i64.wrap ((atP xs (bsD xs t)).2.1 - t) == 0)
def g143 : G1
  | [.rsl [.int .i64, .int .i64, .int .i64] xs, .val (.int .i64 t), .fn 144 []], [], k => br (decide (xs.length ≤ 1048576)) (k ⟨.tup [.val (.int .i64 (bsD xs t)), .val (.bool (bkD xs t))], [], []⟩) False
  | _, _, _ => False
def g75 : G1
  | [.rsl [.int .i64, .int .i64, .int .i64] xs, .val (.int .i64 t)], [], k => br (decide (xs.length ≤ 1048576)) (k ⟨.tup [.val (.int .i64 (bsD xs t)), .val (.bool (bkD xs t))], [], []⟩) False
  | _, _, _ => False
abbrev atI (xs : List (Elem ki)) (i : Nat) : Int := (xs.getD i (edflt ki)).1
def plc1 (f : List (Elem ki)) (i : Nat) : Bool := decide (13 ≤ atI f i) && decide (atI f i ≤ 119) && (i == 0 || decide (atI f (i - 1) < atI f i))
def plcs (f : List (Elem ki)) : Bool := allB f.length (plc1 f)
def g107 : G1
  | [.rsl [.int .i64] f], [], k => br (decide (f.length ≤ 1048576)) (k ⟨.val (.bool (plcs f)), [], []⟩) False
  | _, _, _ => False
noncomputable def E80 : Env := Ef.of Tryz.f80
noncomputable def G80 : Gk := gk []
noncomputable def lp80 (n : Nat) : Code := (loopOf n (codeOf Tryz.f80)).getD .skip
noncomputable def ct80 (L : Lp) (R : Option Res → Prop) (n : Nat) : Kt := contOf E80 G80 L n (codeOf Tryz.f80) (endK E80 Tryz.f80.results.toList R)
noncomputable def rk80 (L : Lp) (R : Option Res → Prop) (n : Nat) (N : St → Prop) : Kt := rk (jof E80 (lp80 n)) N (ct80 L R n)
noncomputable def rkn80 (L : Lp) (R : Option Res → Prop) (n : Nat) (N : St → Prop) (m : Nat) (N2 : St → Prop) : Kt := rk (jof E80 (lp80 m)) N2 (contOf E80 G80 L m (lp80 n) (rk80 L R n N))
noncomputable def LOOPN80 (L : Lp) (R : Option Res → Prop) (n : Nat) (N : St → Prop) (m : Nat) (st : St) : Prop := L (lp80 m) st (contOf E80 G80 L m (lp80 n) (rk80 L R n N))
noncomputable def LOOP80 (L : Lp) (R : Option Res → Prop) (n : Nat) (st : St) : Prop := L (lp80 n) st (ct80 L R n)
theorem hg80 : HG Tryz.prog G80 := hg_nil
theorem okf80 : Ok Tryz.prog E80 := okf.of Tryz.f80
theorem e80 (L : Lp) (R : Option Res → Prop) (x : Int) (s : List (Elem kc)) (d p : List (Elem k3)) (b : Bool) (f : List (Elem ki)) (n : Int) : (bodyP Ef G80 L Tryz.f80 [coreAV x s d p b f n] [] R) = (
    LOOP80 L R 3 { tm := [vJ, AV.ptr 0 0, AV.ptr 1 0, AV.ptr 3 0, vI 0, vJ, vJ, vJ, vJ, vJ, vJ, vJ, vJ, vJ, vJ, vJ, vJ, vJ, vJ, vJ, vJ, vJ, vJ, vJ, vJ, vJ, vJ, vJ, vJ, vJ, vJ, vJ, vJ, vJ, vJ, vJ, vJ, vJ], ob := [(0, AO.box [vI x, AV.rsl kc s, AV.rsl k3 d, AV.rsl k3 p, vB b, AV.rsl ki f, vI n]), (1, AO.box [AV.ows 2]), (2, AO.row kb []), (3, AO.box [AV.ows 4]), (4, AO.row kb [])], nx := 1000000, ps := [] }) := by kernel_rfl
def st80 (x : Int) (s : List (Elem kc)) (d p : List (Elem k3)) (b : Bool) (f : List (Elem ki)) (n : Int) (i : Int) (ys : List (Elem kb)) : St :=  ⟨[vJ, AV.ptr 0 0, AV.ptr 1 0, AV.ptr 3 0, .val (.int .i64 i), vJ, vJ, vJ, vJ, vJ, vJ, vJ, vJ, vJ, vJ, vJ, vJ, vJ, vJ, vJ, vJ, vJ, vJ, vJ, vJ, vJ, vJ, vJ, vJ, vJ, vJ, vJ, vJ, vJ, vJ, vJ, vJ, vJ], [(0, AO.box [vI x, AV.rsl kc s, AV.rsl k3 d, AV.rsl k3 p, vB b, AV.rsl ki f, vI n]), (1, AO.box [AV.ows 2]), (2, AO.row kb []), (3, AO.box [AV.ows 4]), (4, .row kb ys)], 1000000, []⟩
theorem b80 (L : Lp) (R : Option Res → Prop) (N : St → Prop) (x : Int) (s : List (Elem kc)) (d p : List (Elem k3)) (b : Bool) (f : List (Elem ki)) (n : Int) (i : Int) (ys : List (Elem kb)) : (evP E80 G80 L (lp80 3) (st80 x s d p b f n i ys) (rk80 L R 3 N)) = (
    br (decide (i < (↑s.length : Int))) (br (decide (0 ≤ i ∧ i < (↑s.length : Int))) (br (decide (0 ≤ i ∧ i < (↑s.length : Int))) (br (decide (0 ≤ i ∧ i < (↑s.length : Int))) (br (decide ((ys.length + [((s.getD i.toNat (edflt kc)).fst, (s.getD i.toNat (edflt kc)).snd.fst, (s.getD i.toNat (edflt kc)).snd.snd.fst, ByteArray.empty, ByteArray.empty, ByteArray.empty, ByteArray.empty, ByteArray.empty, ByteArray.empty, ByteArray.empty, ByteArray.empty, ())].length) * 168 ≤ 140737488355328)) (N { tm := [vJ, AV.ptr 0 0, AV.ptr 1 0, AV.ptr 3 0, vI (IntKind.i64.wrap (i + 1)), vJ, vJ, vJ, vJ, vJ, vJ, vJ, vJ, vJ, vJ, vJ, vJ, vJ, vJ, vJ, vJ, vJ, vJ, vJ, vJ, vJ, vJ, vJ, vJ, vJ, vJ, vJ, vJ, vJ, vJ, vJ, vJ, vJ], ob := [(0, AO.box [vI x, AV.rsl kc s, AV.rsl k3 d, AV.rsl k3 p, vB b, AV.rsl ki f, vI n]), (1, AO.box [AV.ows 2]), (2, AO.row kb []), (3, AO.box [AV.ows 4]), (4, AO.row kb (ys ++ [((s.getD i.toNat (edflt kc)).fst, (s.getD i.toNat (edflt kc)).snd.fst, (s.getD i.toNat (edflt kc)).snd.snd.fst, ByteArray.empty, ByteArray.empty, ByteArray.empty, ByteArray.empty, ByteArray.empty, ByteArray.empty, ByteArray.empty, ByteArray.empty, ())]))], nx := 1000000, ps := [] }) False) False) False) False) (R (some { av := AV.agg [AV.ows 0], obs := [AO.row kb ys], outs := [] }))) := by kernel_rfl
theorem map_take {α β : Type} (g : α → β) (s : List α) (dd : α) {i : Nat} (hi : i < s.length) : (s.map g).take (i + 1) = (s.map g).take i ++ [g (s.getD i dd)] := by
  rw [List.take_add_one, List.getD_eq_getElem?_getD, List.getElem?_eq_getElem hi, List.getElem?_map, List.getElem?_eq_getElem hi]
  rfl
theorem smCo_s {x : Int} {s : List (Elem kc)} {d p : List (Elem k3)} {b : Bool} {f : List (Elem ki)} {n : Int} (h : smCo (x, s, d, p, b, f, n) = true) : s.length ≤ 1048576 := by
  simp only [smCo, Bool.and_eq_true, decide_eq_true_eq] at h
  exact h.1.1.1
theorem smCo_d {x : Int} {s : List (Elem kc)} {d p : List (Elem k3)} {b : Bool} {f : List (Elem ki)} {n : Int} (h : smCo (x, s, d, p, b, f, n) = true) : d.length ≤ 1048576 := by
  simp only [smCo, Bool.and_eq_true, decide_eq_true_eq] at h
  exact h.1.1.2
theorem smCo_p {x : Int} {s : List (Elem kc)} {d p : List (Elem k3)} {b : Bool} {f : List (Elem ki)} {n : Int} (h : smCo (x, s, d, p, b, f, n) = true) : p.length ≤ 1048576 := by
  simp only [smCo, Bool.and_eq_true, decide_eq_true_eq] at h
  exact h.1.2
theorem smCo_f {x : Int} {s : List (Elem kc)} {d p : List (Elem k3)} {b : Bool} {f : List (Elem ki)} {n : Int} (h : smCo (x, s, d, p, b, f, n) = true) : f.length ≤ 1048576 := by
  simp only [smCo, Bool.and_eq_true, decide_eq_true_eq] at h
  exact h.2
theorem h80 : G1Ok Tryz.prog 80 g80 := by
  intro args obs k h
  unfold g80 at h
  split at h
  · rename_i k us
    split at h
    rotate_left
    · exact h.elim
    rename_i c hc
    obtain rfl := coreOf_inv hc
    obtain ⟨x, s, d, p, b, f, n⟩ := c
    obtain ⟨hp, h⟩ := br_and h
    have hl : s.length ≤ 1048576 := smCo_s hp
    refine ⟨_, ctr_fn okf hg80 Tryz.func80 (by kernel_rfl) (by kernel_rfl) (by kernel_rfl) fun C => ?_, h⟩
    show bodyP Ef G80 _ Tryz.f80 [coreAV x s d p b f n] [] _
    rw [e80]
    refine loopUp okf80 hg80 (fun i ys => st80 x s d p b f n i ys) s.length (fun i ys => ys = (bkS s).take i) (fun N i ys hi hy next => ?_) [] rfl
    show evP E80 G80 _ (lp80 3) (st80 x s d p b f n i ys) (rk80 _ _ 3 _)
    rw [b80, wrap_id (n := (i : Int) + 1) (by omega) (by omega), Int.toNat_natCast]
    have hyl : ys.length ≤ 1048576 := by rw [hy, List.length_take]; unfold bkS; rw [List.length_map]; omega
    refine br_dec (fun h2 => ?_) (fun h2 => ?_)
    · refine br_yes ⟨by omega, h2⟩ (br_yes ⟨by omega, h2⟩ (br_yes ⟨by omega, h2⟩ (br_yes ?_ ?_)))
      · show (ys.length + 1) * 168 ≤ _
        omega
      · exact next (by omega) _ (by rw [hy]; exact (map_take bkOf s (edflt kc) (by omega)).symm)
    · show _ = _
      rw [hy, List.take_of_length_le (by unfold bkS; rw [List.length_map]; omega)]
  · exact h.elim
noncomputable def E85 : Env := Ef.of Tryz.f85
noncomputable def G85 : Gk := gk []
noncomputable def lp85 (n : Nat) : Code := (loopOf n (codeOf Tryz.f85)).getD .skip
noncomputable def ct85 (L : Lp) (R : Option Res → Prop) (n : Nat) : Kt := contOf E85 G85 L n (codeOf Tryz.f85) (endK E85 Tryz.f85.results.toList R)
noncomputable def rk85 (L : Lp) (R : Option Res → Prop) (n : Nat) (N : St → Prop) : Kt := rk (jof E85 (lp85 n)) N (ct85 L R n)
noncomputable def rkn85 (L : Lp) (R : Option Res → Prop) (n : Nat) (N : St → Prop) (m : Nat) (N2 : St → Prop) : Kt := rk (jof E85 (lp85 m)) N2 (contOf E85 G85 L m (lp85 n) (rk85 L R n N))
noncomputable def LOOPN85 (L : Lp) (R : Option Res → Prop) (n : Nat) (N : St → Prop) (m : Nat) (st : St) : Prop := L (lp85 m) st (contOf E85 G85 L m (lp85 n) (rk85 L R n N))
noncomputable def LOOP85 (L : Lp) (R : Option Res → Prop) (n : Nat) (st : St) : Prop := L (lp85 n) st (ct85 L R n)
theorem hg85 : HG Tryz.prog G85 := hg_nil
theorem okf85 : Ok Tryz.prog E85 := okf.of Tryz.f85
theorem e85 (L : Lp) (R : Option Res → Prop) (x : Int) (s : List (Elem kc)) (d p : List (Elem k3)) (b : Bool) (f : List (Elem ki)) (n : Int) : (bodyP Ef G85 L Tryz.f85 [coreAV x s d p b f n] [] R) = (
    LOOP85 L R 3 { tm := [vJ, vJ, AV.ptr 0 0, AV.ptr 2 0, vJ, vJ, vJ, AV.rsl kc s, vI (↑s.length : Int), vI 0, vJ, vJ, vJ, vJ, vJ, vJ, vJ, vJ, vJ, vJ, vJ, vJ, vJ, vJ, vJ, vJ, vJ], ob := [(0, AO.box [AV.ows 1]), (1, AO.row kb []), (2, AO.box [AV.ows 3]), (3, AO.row kb [])], nx := 1000000, ps := [] }) := by kernel_rfl
def st85 (x : Int) (s : List (Elem kc)) (d p : List (Elem k3)) (b : Bool) (f : List (Elem ki)) (n : Int) (i : Int) (ys : List (Elem kb)) : St :=  ⟨[vJ, vJ, AV.ptr 0 0, AV.ptr 2 0, vJ, vJ, vJ, AV.rsl kc s, vI (↑s.length : Int), .val (.int .i64 i), vJ, vJ, vJ, vJ, vJ, vJ, vJ, vJ, vJ, vJ, vJ, vJ, vJ, vJ, vJ, vJ, vJ], [(0, AO.box [AV.ows 1]), (1, AO.row kb []), (2, AO.box [AV.ows 3]), (3, .row kb ys)], 1000000, []⟩
theorem b85 (L : Lp) (R : Option Res → Prop) (N : St → Prop) (x : Int) (s : List (Elem kc)) (d p : List (Elem k3)) (b : Bool) (f : List (Elem ki)) (n : Int) (i : Int) (ys : List (Elem kb)) : (evP E85 G85 L (lp85 3) (st85 x s d p b f n i ys) (rk85 L R 3 N)) = (
    br (decide (i < (↑s.length : Int))) (br (decide (0 ≤ i ∧ i < (↑s.length : Int))) (br (decide ((ys.length + [((s.getD i.toNat (edflt kc)).fst, (s.getD i.toNat (edflt kc)).snd.fst, (s.getD i.toNat (edflt kc)).snd.snd.fst, ByteArray.empty, ByteArray.empty, ByteArray.empty, ByteArray.empty, ByteArray.empty, ByteArray.empty, ByteArray.empty, ByteArray.empty, ())].length) * 168 ≤ 140737488355328)) (N { tm := [vJ, vJ, AV.ptr 0 0, AV.ptr 2 0, vJ, vJ, vJ, AV.rsl kc s, vI (↑s.length : Int), vI (IntKind.i64.wrap (i + 1)), vJ, vJ, vJ, vJ, vJ, vJ, vJ, vJ, vJ, vJ, vJ, vJ, vJ, vJ, vJ, vJ, vJ], ob := [(0, AO.box [AV.ows 1]), (1, AO.row kb []), (2, AO.box [AV.ows 3]), (3, AO.row kb (ys ++ [((s.getD i.toNat (edflt kc)).fst, (s.getD i.toNat (edflt kc)).snd.fst, (s.getD i.toNat (edflt kc)).snd.snd.fst, ByteArray.empty, ByteArray.empty, ByteArray.empty, ByteArray.empty, ByteArray.empty, ByteArray.empty, ByteArray.empty, ByteArray.empty, ())]))], nx := 1000000, ps := [] }) False) False) (R (some { av := AV.agg [AV.ows 0], obs := [AO.row kb ys], outs := [] }))) := by kernel_rfl
theorem h85 : G1Ok Tryz.prog 85 g80 := by
  intro args obs k h
  unfold g80 at h
  split at h
  · rename_i k us
    split at h
    rotate_left
    · exact h.elim
    rename_i c hc
    obtain rfl := coreOf_inv hc
    obtain ⟨x, s, d, p, b, f, n⟩ := c
    obtain ⟨hp, h⟩ := br_and h
    have hl : s.length ≤ 1048576 := smCo_s hp
    refine ⟨_, ctr_fn okf hg85 Tryz.func85 (by kernel_rfl) (by kernel_rfl) (by kernel_rfl) fun C => ?_, h⟩
    show bodyP Ef G85 _ Tryz.f85 [coreAV x s d p b f n] [] _
    rw [e85]
    refine loopUp okf85 hg85 (fun i ys => st85 x s d p b f n i ys) s.length (fun i ys => ys = (bkS s).take i) (fun N i ys hi hy next => ?_) [] rfl
    show evP E85 G85 _ (lp85 3) (st85 x s d p b f n i ys) (rk85 _ _ 3 _)
    rw [b85, wrap_id (n := (i : Int) + 1) (by omega) (by omega), Int.toNat_natCast]
    have hyl : ys.length ≤ 1048576 := by rw [hy, List.length_take]; unfold bkS; rw [List.length_map]; omega
    refine br_dec (fun h2 => ?_) (fun h2 => ?_)
    · refine br_yes ⟨by omega, h2⟩ (br_yes ?_ ?_)
      · show (ys.length + 1) * 168 ≤ _
        omega
      · exact next (by omega) _ (by rw [hy]; exact (map_take bkOf s (edflt kc) (by omega)).symm)
    · show _ = _
      rw [hy, List.take_of_length_le (by unfold bkS; rw [List.length_map]; omega)]
  · exact h.elim
noncomputable def E72 : Env := Ef.of Tryz.f72
noncomputable def G72 : Gk := gk []
noncomputable def lp72 (n : Nat) : Code := (loopOf n (codeOf Tryz.f72)).getD .skip
noncomputable def ct72 (L : Lp) (R : Option Res → Prop) (n : Nat) : Kt := contOf E72 G72 L n (codeOf Tryz.f72) (endK E72 Tryz.f72.results.toList R)
noncomputable def rk72 (L : Lp) (R : Option Res → Prop) (n : Nat) (N : St → Prop) : Kt := rk (jof E72 (lp72 n)) N (ct72 L R n)
noncomputable def rkn72 (L : Lp) (R : Option Res → Prop) (n : Nat) (N : St → Prop) (m : Nat) (N2 : St → Prop) : Kt := rk (jof E72 (lp72 m)) N2 (contOf E72 G72 L m (lp72 n) (rk72 L R n N))
noncomputable def LOOPN72 (L : Lp) (R : Option Res → Prop) (n : Nat) (N : St → Prop) (m : Nat) (st : St) : Prop := L (lp72 m) st (contOf E72 G72 L m (lp72 n) (rk72 L R n N))
noncomputable def LOOP72 (L : Lp) (R : Option Res → Prop) (n : Nat) (st : St) : Prop := L (lp72 n) st (ct72 L R n)
theorem hg72 : HG Tryz.prog G72 := hg_nil
theorem okf72 : Ok Tryz.prog E72 := okf.of Tryz.f72
theorem e72 (L : Lp) (R : Option Res → Prop) (xs : List (Elem k3)) (t : Int) : (bodyP Ef G72 L Tryz.f72 [.rsl k3 xs, .val (.int .i64 t)] [] R) = (
    LOOP72 L R 2 { tm := [AV.rsl k3 xs, vI t, vJ, vJ, vJ, vJ, vI 0, vJ, vJ, vJ, vJ, vJ, vJ, vJ, vJ, vJ, vJ, vJ, vJ, vJ, vJ, vJ, vJ, vJ, vJ, vJ, vJ, vJ, vJ, vJ, vJ, vJ, vJ, vJ, vJ, vJ], ob := [], nx := 1000000, ps := [] }) := by kernel_rfl
def st72 (xs : List (Elem k3)) (t i : Int) : St :=  ⟨[AV.rsl k3 xs, vI t, vJ, vJ, vJ, vJ, .val (.int .i64 i), vJ, vJ, vJ, vJ, vJ, vJ, vJ, vJ, vJ, vJ, vJ, vJ, vJ, vJ, vJ, vJ, vJ, vJ, vJ, vJ, vJ, vJ, vJ, vJ, vJ, vJ, vJ, vJ, vJ], [], 1000000, []⟩
theorem b72 (L : Lp) (R : Option Res → Prop) (N : St → Prop) (xs : List (Elem k3)) (t i : Int) : (evP E72 G72 L (lp72 2) (st72 xs t i) (rk72 L R 2 N)) = (
    br (decide (i < (↑xs.length : Int))) (br (decide (0 ≤ i ∧ i < (↑xs.length : Int))) (br (decide ((xs.getD i.toNat (edflt k3)).snd.fst < t)) (N { tm := [AV.rsl k3 xs, vI t, vJ, vJ, vJ, vJ, vI (IntKind.i64.wrap (i + 1)), vJ, vJ, vJ, vJ, vJ, vJ, vJ, vJ, vJ, vJ, vJ, vJ, vJ, vJ, vJ, vJ, vJ, vJ, vJ, vJ, vJ, vJ, vJ, vJ, vJ, vJ, vJ, vJ, vJ], ob := [], nx := 1000000, ps := [] }) (br (decide (i < (↑xs.length : Int))) (br (decide (0 ≤ i ∧ i < (↑xs.length : Int))) (R (some { av := AV.tup [vI i, vB ((xs.getD i.toNat (edflt k3)).snd.fst == t)], obs := [], outs := [] })) False) (R (some { av := AV.tup [vI i, vB false], obs := [], outs := [] })))) False) (br (decide (i < (↑xs.length : Int))) (br (decide (0 ≤ i ∧ i < (↑xs.length : Int))) (R (some { av := AV.tup [vI i, vB ((xs.getD i.toNat (edflt k3)).snd.fst == t)], obs := [], outs := [] })) False) (R (some { av := AV.tup [vI i, vB false], obs := [], outs := [] })))) := by kernel_rfl
theorem h72 : G1Ok Tryz.prog 72 g72 := by
  intro args obs k h
  unfold g72 at h
  split at h
  · rename_i k xs t
    obtain ⟨hl, h⟩ := brd h
    refine ⟨_, ctr_fn okf hg72 Tryz.func72 (by kernel_rfl) (by kernel_rfl) (by kernel_rfl) fun C => ?_, h⟩
    rw [e72]
    refine loopLn okf72 hg72 (fun i => st72 xs t i) xs.length (fun i => decide ((atP xs i).2.1 < t)) (by omega) (fun N i hi hw next stop last => ?_)
    show evP E72 G72 _ (lp72 2) (st72 xs t i) (rk72 _ _ 2 _)
    rw [b72, hw, Int.toNat_natCast]
    refine br_dec (fun h2 => br_yes ⟨by omega, h2⟩ (br_dec (fun h3 => ?_) (fun h3 => br_yes h2 (br_yes ⟨by omega, h2⟩ ?_)))) (fun h2 => br_no h2 ?_)
    · exact next (by omega) (decide_eq_true h3)
    · show _ = _
      have e : lnD xs t = i := stop (by omega) (decide_eq_false h3)
      unfold okD
      rw [e, decide_eq_true (show i < xs.length by omega), Bool.true_and]
    · show _ = _
      have e : lnD xs t = i := last (by omega)
      unfold okD
      rw [e, decide_eq_false (show ¬ i < xs.length by omega), Bool.false_and]
  · exact h.elim
noncomputable def E144 : Env := Ef.of Tryz.f144
noncomputable def G144 : Gk := gk []
noncomputable def lp144 (n : Nat) : Code := (loopOf n (codeOf Tryz.f144)).getD .skip
noncomputable def ct144 (L : Lp) (R : Option Res → Prop) (n : Nat) : Kt := contOf E144 G144 L n (codeOf Tryz.f144) (endK E144 Tryz.f144.results.toList R)
noncomputable def rk144 (L : Lp) (R : Option Res → Prop) (n : Nat) (N : St → Prop) : Kt := rk (jof E144 (lp144 n)) N (ct144 L R n)
noncomputable def rkn144 (L : Lp) (R : Option Res → Prop) (n : Nat) (N : St → Prop) (m : Nat) (N2 : St → Prop) : Kt := rk (jof E144 (lp144 m)) N2 (contOf E144 G144 L m (lp144 n) (rk144 L R n N))
noncomputable def LOOPN144 (L : Lp) (R : Option Res → Prop) (n : Nat) (N : St → Prop) (m : Nat) (st : St) : Prop := L (lp144 m) st (contOf E144 G144 L m (lp144 n) (rk144 L R n N))
noncomputable def LOOP144 (L : Lp) (R : Option Res → Prop) (n : Nat) (st : St) : Prop := L (lp144 n) st (ct144 L R n)
theorem hg144 : HG Tryz.prog G144 := hg_nil
theorem okf144 : Ok Tryz.prog E144 := okf.of Tryz.f144
theorem e144 (L : Lp) (R : Option Res → Prop) (a b c t : Int) : (bodyP Ef G144 L Tryz.f144 [.agg [.val (.int .i64 a), .val (.int .i64 b), .val (.int .i64 c)], .val (.int .i64 t)] [] R) = (
    R (some { av := vI (IntKind.i64.wrap (b - t)), obs := [], outs := [] })) := by kernel_rfl
theorem h144 : G1Ok Tryz.prog 144 g144 := by
  intro args obs k h
  unfold g144 at h
  split at h
  · rename_i k a b c t
    refine ⟨_, ctr_fn okf hg144 Tryz.func144 (by kernel_rfl) (by kernel_rfl) (by kernel_rfl) fun C => ?_, h⟩
    rw [e144]
  · exact h.elim
noncomputable def E143 : Env := Ef.of Tryz.f143
noncomputable def G143 : Gk := gk [(144, g144)]
noncomputable def lp143 (n : Nat) : Code := (loopOf n (codeOf Tryz.f143)).getD .skip
noncomputable def ct143 (L : Lp) (R : Option Res → Prop) (n : Nat) : Kt := contOf E143 G143 L n (codeOf Tryz.f143) (endK E143 Tryz.f143.results.toList R)
noncomputable def rk143 (L : Lp) (R : Option Res → Prop) (n : Nat) (N : St → Prop) : Kt := rk (jof E143 (lp143 n)) N (ct143 L R n)
noncomputable def rkn143 (L : Lp) (R : Option Res → Prop) (n : Nat) (N : St → Prop) (m : Nat) (N2 : St → Prop) : Kt := rk (jof E143 (lp143 m)) N2 (contOf E143 G143 L m (lp143 n) (rk143 L R n N))
noncomputable def LOOPN143 (L : Lp) (R : Option Res → Prop) (n : Nat) (N : St → Prop) (m : Nat) (st : St) : Prop := L (lp143 m) st (contOf E143 G143 L m (lp143 n) (rk143 L R n N))
noncomputable def LOOP143 (L : Lp) (R : Option Res → Prop) (n : Nat) (st : St) : Prop := L (lp143 n) st (ct143 L R n)
theorem hg143 : HG Tryz.prog G143 := (hg_cons h144 hg_nil)
theorem okf143 : Ok Tryz.prog E143 := okf.of Tryz.f143
theorem e143 (L : Lp) (R : Option Res → Prop) (xs : List (Elem k3)) (t : Int) : (bodyP Ef G143 L Tryz.f143 [.rsl k3 xs, .val (.int .i64 t), .fn 144 []] [] R) = (
    LOOP143 L R 3 { tm := [AV.rsl k3 xs, vI t, AV.fn 144 [], vJ, vJ, vJ, vJ, vJ, vI (↑xs.length : Int), vI 0, vI (↑xs.length : Int), vJ, vJ, vJ, vJ, vJ, vJ, vJ, vJ, vJ, vJ, vJ, vJ, vJ, vJ, vJ, vJ, vJ, vJ, vJ, vJ, vJ, vJ, vJ, vJ, vJ, vJ, vJ, vJ, vJ, vJ, vJ, vJ, vJ, vJ, vJ, vJ, vJ, vJ], ob := [], nx := 1000000, ps := [] }) := by kernel_rfl
def st143 (xs : List (Elem k3)) (t i j : Int) : St :=  ⟨[AV.rsl k3 xs, vI t, AV.fn 144 [], vJ, vJ, vJ, vJ, vJ, vI (↑xs.length : Int), .val (.int .i64 i), .val (.int .i64 j), vJ, vJ, vJ, vJ, vJ, vJ, vJ, vJ, vJ, vJ, vJ, vJ, vJ, vJ, vJ, vJ, vJ, vJ, vJ, vJ, vJ, vJ, vJ, vJ, vJ, vJ, vJ, vJ, vJ, vJ, vJ, vJ, vJ, vJ, vJ, vJ, vJ, vJ], [], 1000000, []⟩
theorem b143 (L : Lp) (R : Option Res → Prop) (N : St → Prop) (xs : List (Elem k3)) (t i j : Int) : (evP E143 G143 L (lp143 3) (st143 xs t i j) (rk143 L R 3 N)) = (
    br (decide (i < j)) (br (decide (0 ≤ IntKind.i64.wrap ((IntKind.u64.wrap (IntKind.i64.wrap (i + j))).fdiv 2) ∧ IntKind.i64.wrap ((IntKind.u64.wrap (IntKind.i64.wrap (i + j))).fdiv 2) < (↑xs.length : Int))) (br (decide (IntKind.i64.wrap ((xs.getD (IntKind.i64.wrap ((IntKind.u64.wrap (IntKind.i64.wrap (i + j))).fdiv 2)).toNat (edflt k3)).snd.fst - t) < 0)) (N { tm := [AV.rsl k3 xs, vI t, AV.fn 144 [], vJ, vJ, vJ, vJ, vJ, vI (↑xs.length : Int), vI (IntKind.i64.wrap (IntKind.i64.wrap ((IntKind.u64.wrap (IntKind.i64.wrap (i + j))).fdiv 2) + 1)), vI j, vJ, vJ, vJ, vJ, vJ, vJ, vJ, vJ, vJ, vJ, vJ, vJ, vJ, vJ, vJ, vJ, vJ, vJ, vJ, vJ, vJ, vJ, vJ, vJ, vJ, vJ, vJ, vJ, vJ, vJ, vJ, vJ, vJ, vJ, vJ, vJ, vJ, vJ], ob := [], nx := 1000000, ps := [] }) (N { tm := [AV.rsl k3 xs, vI t, AV.fn 144 [], vJ, vJ, vJ, vJ, vJ, vI (↑xs.length : Int), vI i, vI (IntKind.i64.wrap ((IntKind.u64.wrap (IntKind.i64.wrap (i + j))).fdiv 2)), vJ, vJ, vJ, vJ, vJ, vJ, vJ, vJ, vJ, vJ, vJ, vJ, vJ, vJ, vJ, vJ, vJ, vJ, vJ, vJ, vJ, vJ, vJ, vJ, vJ, vJ, vJ, vJ, vJ, vJ, vJ, vJ, vJ, vJ, vJ, vJ, vJ, vJ], ob := [], nx := 1000000, ps := [] })) False) (br (decide (i < (↑xs.length : Int))) (br (decide (0 ≤ i ∧ i < (↑xs.length : Int))) (R (some { av := AV.tup [vI i, vB (IntKind.i64.wrap ((xs.getD i.toNat (edflt k3)).snd.fst - t) == 0)], obs := [], outs := [] })) False) (R (some { av := AV.tup [vI i, vB false], obs := [], outs := [] })))) := by kernel_rfl
theorem h143 : G1Ok Tryz.prog 143 g143 := by
  intro args obs k h
  unfold g143 at h
  split at h
  · rename_i k xs t
    obtain ⟨hl, h⟩ := brd h
    refine ⟨_, ctr_fn okf hg143 Tryz.func143 (by kernel_rfl) (by kernel_rfl) (by kernel_rfl) fun C => ?_, h⟩
    rw [e143]
    refine loopBs okf143 hg143 (fun i j => st143 xs t i j) xs.length (fun i => decide (IntKind.i64.wrap ((atP xs i).2.1 - t) < 0)) (by omega) (fun N i j hij hj hm hw yes no done => ?_) _ rfl
    show evP E143 G143 _ (lp143 3) (st143 xs t i j) (rk143 _ _ 3 _)
    rw [b143, hm]
    refine br_dec (fun h2 => ?_) (fun h2 => ?_)
    · rw [hw (by omega), Int.toNat_natCast]
      exact br_yes ⟨by omega, by omega⟩ (br_intro (fun h3 => yes (by omega) h3) (fun h3 => no (by omega) h3))
    · have e : bsD xs t = i := done (by omega)
      refine br_dec (fun h3 => br_yes ⟨by omega, h3⟩ ?_) (fun h3 => ?_)
      · show _ = _
        unfold bkD
        rw [e, decide_eq_true (show i < xs.length by omega), Bool.true_and, Int.toNat_natCast]
      · show _ = _
        unfold bkD
        rw [e, decide_eq_false (show ¬ i < xs.length by omega), Bool.false_and]
  · exact h.elim
noncomputable def E75 : Env := Ef.of Tryz.f75
noncomputable def G75 : Gk := gk [(143, g143)]
noncomputable def lp75 (n : Nat) : Code := (loopOf n (codeOf Tryz.f75)).getD .skip
noncomputable def ct75 (L : Lp) (R : Option Res → Prop) (n : Nat) : Kt := contOf E75 G75 L n (codeOf Tryz.f75) (endK E75 Tryz.f75.results.toList R)
noncomputable def rk75 (L : Lp) (R : Option Res → Prop) (n : Nat) (N : St → Prop) : Kt := rk (jof E75 (lp75 n)) N (ct75 L R n)
noncomputable def rkn75 (L : Lp) (R : Option Res → Prop) (n : Nat) (N : St → Prop) (m : Nat) (N2 : St → Prop) : Kt := rk (jof E75 (lp75 m)) N2 (contOf E75 G75 L m (lp75 n) (rk75 L R n N))
noncomputable def LOOPN75 (L : Lp) (R : Option Res → Prop) (n : Nat) (N : St → Prop) (m : Nat) (st : St) : Prop := L (lp75 m) st (contOf E75 G75 L m (lp75 n) (rk75 L R n N))
noncomputable def LOOP75 (L : Lp) (R : Option Res → Prop) (n : Nat) (st : St) : Prop := L (lp75 n) st (ct75 L R n)
theorem hg75 : HG Tryz.prog G75 := (hg_cons h143 hg_nil)
theorem okf75 : Ok Tryz.prog E75 := okf.of Tryz.f75
theorem e75 (L : Lp) (R : Option Res → Prop) (xs : List (Elem k3)) (t : Int) : (bodyP Ef G75 L Tryz.f75 [.rsl k3 xs, .val (.int .i64 t)] [] R) = (
    br (decide (xs.length ≤ 1048576)) (R (some { av := AV.tup [vI (↑(bsD xs t) : Int), vB (bkD xs t)], obs := [], outs := [] })) False) := by kernel_rfl
theorem h75 : G1Ok Tryz.prog 75 g75 := by
  intro args obs k h
  unfold g75 at h
  split at h
  · rename_i k xs t
    obtain ⟨hl, h⟩ := br_and h
    refine ⟨_, ctr_fn okf hg75 Tryz.func75 (by kernel_rfl) (by kernel_rfl) (by kernel_rfl) fun C => ?_, h⟩
    rw [e75]
    exact br_t hl rfl
  · exact h.elim
noncomputable def E107 : Env := Ef.of Tryz.f107
noncomputable def G107 : Gk := gk []
noncomputable def lp107 (n : Nat) : Code := (loopOf n (codeOf Tryz.f107)).getD .skip
noncomputable def ct107 (L : Lp) (R : Option Res → Prop) (n : Nat) : Kt := contOf E107 G107 L n (codeOf Tryz.f107) (endK E107 Tryz.f107.results.toList R)
noncomputable def rk107 (L : Lp) (R : Option Res → Prop) (n : Nat) (N : St → Prop) : Kt := rk (jof E107 (lp107 n)) N (ct107 L R n)
noncomputable def rkn107 (L : Lp) (R : Option Res → Prop) (n : Nat) (N : St → Prop) (m : Nat) (N2 : St → Prop) : Kt := rk (jof E107 (lp107 m)) N2 (contOf E107 G107 L m (lp107 n) (rk107 L R n N))
noncomputable def LOOPN107 (L : Lp) (R : Option Res → Prop) (n : Nat) (N : St → Prop) (m : Nat) (st : St) : Prop := L (lp107 m) st (contOf E107 G107 L m (lp107 n) (rk107 L R n N))
noncomputable def LOOP107 (L : Lp) (R : Option Res → Prop) (n : Nat) (st : St) : Prop := L (lp107 n) st (ct107 L R n)
theorem hg107 : HG Tryz.prog G107 := hg_nil
theorem okf107 : Ok Tryz.prog E107 := okf.of Tryz.f107
theorem e107 (L : Lp) (R : Option Res → Prop) (f : List (Elem ki)) : (bodyP Ef G107 L Tryz.f107 [.rsl ki f] [] R) = (
    LOOP107 L R 2 { tm := [AV.rsl ki f, vJ, vJ, vI 0, vJ, vJ, vJ, vJ, vJ, vJ, vJ, vJ, vJ, vJ, vJ, vJ, vJ, vJ, vJ, vJ, vJ, vJ, vJ, vJ, vJ, vJ, vJ, vJ, vJ, vJ, vJ, vJ, vJ, vJ, vJ, vJ, vJ, vJ], ob := [], nx := 1000000, ps := [] }) := by kernel_rfl
def st107 (f : List (Elem ki)) (i : Int) : St :=  ⟨[AV.rsl ki f, vJ, vJ, .val (.int .i64 i), vJ, vJ, vJ, vJ, vJ, vJ, vJ, vJ, vJ, vJ, vJ, vJ, vJ, vJ, vJ, vJ, vJ, vJ, vJ, vJ, vJ, vJ, vJ, vJ, vJ, vJ, vJ, vJ, vJ, vJ, vJ, vJ, vJ, vJ], [], 1000000, []⟩
theorem b107 (L : Lp) (R : Option Res → Prop) (N : St → Prop) (f : List (Elem ki)) (i : Int) : (evP E107 G107 L (lp107 2) (st107 f i) (rk107 L R 2 N)) = (
    br (decide (i < (↑f.length : Int))) (br (decide (0 ≤ i ∧ i < (↑f.length : Int))) (br (decide ((f.getD i.toNat (edflt ki)).fst < 13)) (R (some { av := vB false, obs := [], outs := [] })) (br (decide (0 ≤ i ∧ i < (↑f.length : Int))) (br (decide ((f.getD i.toNat (edflt ki)).fst ≥ 120)) (R (some { av := vB false, obs := [], outs := [] })) (br (decide (i > 0)) (br (decide (0 ≤ i ∧ i < (↑f.length : Int))) (br (decide (0 ≤ IntKind.i64.wrap (i - 1) ∧ IntKind.i64.wrap (i - 1) < (↑f.length : Int))) (br (decide ((f.getD i.toNat (edflt ki)).fst ≤ (f.getD (IntKind.i64.wrap (i - 1)).toNat (edflt ki)).fst)) (R (some { av := vB false, obs := [], outs := [] })) (N { tm := [AV.rsl ki f, vJ, vJ, vI (IntKind.i64.wrap (i + 1)), vJ, vJ, vJ, vJ, vJ, vJ, vJ, vJ, vJ, vJ, vJ, vJ, vJ, vJ, vJ, vJ, vJ, vJ, vJ, vJ, vJ, vJ, vJ, vJ, vJ, vJ, vJ, vJ, vJ, vJ, vJ, vJ, vJ, vJ], ob := [], nx := 1000000, ps := [] })) False) False) (N { tm := [AV.rsl ki f, vJ, vJ, vI (IntKind.i64.wrap (i + 1)), vJ, vJ, vJ, vJ, vJ, vJ, vJ, vJ, vJ, vJ, vJ, vJ, vJ, vJ, vJ, vJ, vJ, vJ, vJ, vJ, vJ, vJ, vJ, vJ, vJ, vJ, vJ, vJ, vJ, vJ, vJ, vJ, vJ, vJ], ob := [], nx := 1000000, ps := [] }))) False)) False) (R (some { av := vB true, obs := [], outs := [] }))) := by kernel_rfl
theorem plc_l {f : List (Elem ki)} {i : Nat} (h : atI f i < 13) : plc1 f i = false := by unfold plc1; rw [decide_eq_false (show ¬ 13 ≤ atI f i by omega)]; simp
theorem plc_h {f : List (Elem ki)} {i : Nat} (h : atI f i ≥ 120) : plc1 f i = false := by unfold plc1; rw [decide_eq_false (show ¬ atI f i ≤ 119 by omega)]; simp
theorem plc_o {f : List (Elem ki)} {i : Nat} (h0 : (i : Int) > 0) (h : atI f i ≤ atI f (i - 1)) : plc1 f i = false := by
  unfold plc1
  rw [decide_eq_false (show ¬ atI f (i - 1) < atI f i by omega), show (i == 0) = false from beq_eq_false_iff_ne.2 (by omega)]
  simp
theorem plc_t {f : List (Elem ki)} {i : Nat} (h1 : ¬ atI f i < 13) (h2 : ¬ atI f i ≥ 120) (h3 : i = 0 ∨ atI f (i - 1) < atI f i) : plc1 f i = true := by
  unfold plc1
  rw [decide_eq_true (show 13 ≤ atI f i by omega), decide_eq_true (show atI f i ≤ 119 by omega)]
  rcases h3 with h3 | h3
  · subst h3; rfl
  · rw [decide_eq_true h3]; simp
theorem h107 : G1Ok Tryz.prog 107 g107 := by
  intro args obs k h
  unfold g107 at h
  split at h
  · rename_i k f
    obtain ⟨hl, h⟩ := brd h
    refine ⟨_, ctr_fn okf hg107 Tryz.func107 (by kernel_rfl) (by kernel_rfl) (by kernel_rfl) fun C => ?_, h⟩
    rw [e107]
    refine loopAll okf107 hg107 (fun i => st107 f i) f.length (plc1 f) (by omega) (fun N i hi hw next fails done => ?_)
    show evP E107 G107 _ (lp107 2) (st107 f i) (rk107 _ _ 2 _)
    rw [b107, hw, Int.toNat_natCast]
    refine br_dec (fun h2 => br_yes ⟨by omega, h2⟩ (br_dec (fun h3 => ?_) (fun h3 => br_yes ⟨by omega, h2⟩ (br_dec (fun h4 => ?_) (fun h4 => br_dec (fun h5 => br_yes ⟨by omega, h2⟩ ?_) (fun h5 => ?_)))))) (fun h2 => ?_)
    · show _ = _
      rw [show plcs f = false from fails (by omega) (plc_l h3)]
    · show _ = _
      rw [show plcs f = false from fails (by omega) (plc_h h4)]
    · rw [ix_pred h5 (by omega), Int.toNat_natCast]
      refine br_yes ⟨by omega, by omega⟩ (br_dec (fun h6 => ?_) (fun h6 => ?_))
      · show _ = _
        rw [show plcs f = false from fails (by omega) (plc_o h5 h6)]
      · exact next (by omega) (plc_t h3 h4 (.inr (Int.not_le.1 h6)))
    · exact next (by omega) (plc_t h3 h4 (.inl (by omega)))
    · show _ = _
      rw [show plcs f = true from done (by omega)]
  · exact h.elim
end Go.Proofs.YtkjnijddbiconaaGreatDoor.Ev
