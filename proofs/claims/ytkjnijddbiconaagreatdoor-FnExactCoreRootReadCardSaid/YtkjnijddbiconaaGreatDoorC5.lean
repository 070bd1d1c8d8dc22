/- Parts of a valid core: names, places, counts: contracts. -/
import Derived.Test.YtkjnijddbiconaaGreatDoorC4
namespace Go.Proofs.YtkjnijddbiconaaGreatDoor.Ev
open Go
set_option linter.unusedVariables false
set_option linter.unusedSimpArgs false
set_option maxRecDepth 100000
def bkOf (e : Elem kc) : Elem kb := (e.1, e.2.1, e.2.2.1, ByteArray.empty, ByteArray.empty, ByteArray.empty, ByteArray.empty, ByteArray.empty, ByteArray.empty, ByteArray.empty, ByteArray.empty, ())
def bkS (s : List (Elem kc)) : List (Elem kb) := s.map bkOf
def g80 : G1
  | [.agg us], [], k => match coreOf us with
    | some c => br (smCo c) (k ⟨.agg [.ows 0], [.row kb (bkS c.2.1)], []⟩) False
    | none => False
  | _, _, _ => False
abbrev atI (xs : List (Elem ki)) (i : Nat) : Int := (xs.getD i (edflt ki)).1
noncomputable def E80 : Env := Ef.of Tryz.f80
noncomputable def G80 : Gk := gk []
noncomputable def lp80 (n : Nat) : Code := (loopOf n (codeOf Tryz.f80)).getD .skip
noncomputable def ct80 (L : Lp) (R : Option Res → Prop) (n : Nat) : Kt := contOf E80 G80 L n (codeOf Tryz.f80) (endK E80 Tryz.f80.results.toList R)
noncomputable def rk80 (L : Lp) (R : Option Res → Prop) (n : Nat) (N : St → Prop) : Kt := rk (jof E80 (lp80 n)) N (ct80 L R n)
noncomputable def LOOP80 (L : Lp) (R : Option Res → Prop) (n : Nat) (st : St) : Prop := L (lp80 n) st (ct80 L R n)
theorem hg80 : HG Tryz.prog G80 := hg_nil
theorem okf80 : Ok Tryz.prog E80 := okf.of Tryz.f80
theorem e80 (L : Lp) (R : Option Res → Prop) (x : Int) (s : List (Elem kc)) (d p : List (Elem k3)) (b : Bool) (f : List (Elem ki)) (n : Int) : (bodyP Ef G80 L Tryz.f80 [coreAV x s d p b f n] [] R) = (
    LOOP80 L R 3 { tm := [vJ, AV.ptr 0 0, AV.ptr 1 0, AV.ptr 3 0, vI 0, vJ, vJ, vJ, vJ, vJ, vJ, vJ, vJ, vJ, vJ, vJ, vJ, vJ, vJ, vJ, vJ, vJ, vJ, vJ, vJ, vJ, vJ, vJ, vJ, vJ, vJ, vJ, vJ, vJ, vJ, vJ, vJ, vJ], ob := [(0, AO.box [vI x, AV.rsl kc s, AV.rsl k3 d, AV.rsl k3 p, vB b, AV.rsl ki f, vI n]), (1, AO.box [AV.ows 2]), (2, AO.row kb []), (3, AO.box [AV.ows 4]), (4, AO.row kb [])], nx := 1000000, ps := [] }) := by kernel_rfl
def st80 (x : Int) (s : List (Elem kc)) (d p : List (Elem k3)) (b : Bool) (f : List (Elem ki)) (n : Int) (i : Int) (ys : List (Elem kb)) : St :=  ⟨[vJ, AV.ptr 0 0, AV.ptr 1 0, AV.ptr 3 0, .val (.int .i64 i), vJ, vJ, vJ, vJ, vJ, vJ, vJ, vJ, vJ, vJ, vJ, vJ, vJ, vJ, vJ, vJ, vJ, vJ, vJ, vJ, vJ, vJ, vJ, vJ, vJ, vJ, vJ, vJ, vJ, vJ, vJ, vJ, vJ], [(0, AO.box [vI x, AV.rsl kc s, AV.rsl k3 d, AV.rsl k3 p, vB b, AV.rsl ki f, vI n]), (1, AO.box [AV.ows 2]), (2, AO.row kb []), (3, AO.box [AV.ows 4]), (4, .row kb ys)], 1000000, []⟩
theorem b80 (L : Lp) (R : Option Res → Prop) (N : St → Prop) (x : Int) (s : List (Elem kc)) (d p : List (Elem k3)) (b : Bool) (f : List (Elem ki)) (n : Int) (i : Int) (ys : List (Elem kb)) : (evP E80 G80 L (lp80 3) (st80 x s d p b f n i ys) (rk80 L R 3 N)) = (
    br (decide (i < (↑s.length : Int))) (br (decide (0 ≤ i ∧ i < (↑s.length : Int))) (br (decide (0 ≤ i ∧ i < (↑s.length : Int))) (br (decide (0 ≤ i ∧ i < (↑s.length : Int))) (br (decide ((ys.length + [((s.getD i.toNat (edflt kc)).fst, (s.getD i.toNat (edflt kc)).snd.fst, (s.getD i.toNat (edflt kc)).snd.snd.fst, ByteArray.empty, ByteArray.empty, ByteArray.empty, ByteArray.empty, ByteArray.empty, ByteArray.empty, ByteArray.empty, ByteArray.empty, ())].length) * 168 ≤ 140737488355328)) (N { tm := [vJ, AV.ptr 0 0, AV.ptr 1 0, AV.ptr 3 0, vI (IntKind.i64.wrap (i + 1)), vJ, vJ, vJ, vJ, vJ, vJ, vJ, vJ, vJ, vJ, vJ, vJ, vJ, vJ, vJ, vJ, vJ, vJ, vJ, vJ, vJ, vJ, vJ, vJ, vJ, vJ, vJ, vJ, vJ, vJ, vJ, vJ, vJ], ob := [(0, AO.box [vI x, AV.rsl kc s, AV.rsl k3 d, AV.rsl k3 p, vB b, AV.rsl ki f, vI n]), (1, AO.box [AV.ows 2]), (2, AO.row kb []), (3, AO.box [AV.ows 4]), (4, AO.row kb (ys ++ [((s.getD i.toNat (edflt kc)).fst, (s.getD i.toNat (edflt kc)).snd.fst, (s.getD i.toNat (edflt kc)).snd.snd.fst, ByteArray.empty, ByteArray.empty, ByteArray.empty, ByteArray.empty, ByteArray.empty, ByteArray.empty, ByteArray.empty, ByteArray.empty, ())]))], nx := 1000000, ps := [] }) False) False) False) False) (R (some { av := AV.agg [AV.ows 0], obs := [AO.row kb ys], outs := [] }))) := by kernel_rfl
theorem map_take {α β : Type} (g : α → β) (s : List α) (dd : α) {i : Nat} (hi : i < s.length) : (s.map g).take (i + 1) = (s.map g).take i ++ [g (s.getD i dd)] := by
  rw [List.take_add_one, List.getD_eq_getElem?_getD, List.getElem?_eq_getElem hi, List.getElem?_map, List.getElem?_eq_getElem hi]
  rfl
theorem smCo_s {x : Int} {s : List (Elem kc)} {d p : List (Elem k3)} {b : Bool} {f : List (Elem ki)} {n : Int} (h : smCo (x, s, d, p, b, f, n) = true) : s.length ≤ 1048576 := by
  simp only [smCo, Bool.and_eq_true, decide_eq_true_eq] at h
  exact h.1.1.1
theorem smCo_p {x : Int} {s : List (Elem kc)} {d p : List (Elem k3)} {b : Bool} {f : List (Elem ki)} {n : Int} (h : smCo (x, s, d, p, b, f, n) = true) : p.length ≤ 1048576 := by
  simp only [smCo, Bool.and_eq_true, decide_eq_true_eq] at h
  exact h.1.2
theorem h80 : G1Ok Tryz.prog 80 g80 := by
  intro args obs k h
  unfold g80 at h
  split at h
  · rename_i k us
    split at h
    rotate_left
    · exact h.elim
    rename_i c hc
    obtain rfl := coreOf_inv hc
    obtain ⟨x, s, d, p, b, f, n⟩ := c
    obtain ⟨hp, h⟩ := br_and h
    have hl : s.length ≤ 1048576 := smCo_s hp
    refine ⟨_, ctr_fn okf hg80 Tryz.func80 (by kernel_rfl) (by kernel_rfl) (by kernel_rfl) fun C => ?_, h⟩
    show bodyP Ef G80 _ Tryz.f80 [coreAV x s d p b f n] [] _
    rw [e80]
    refine loopUp okf80 hg80 (fun i ys => st80 x s d p b f n i ys) s.length (fun i ys => ys = (bkS s).take i) (fun N i ys hi hy next => ?_) [] rfl
    show evP E80 G80 _ (lp80 3) (st80 x s d p b f n i ys) (rk80 _ _ 3 _)
    rw [b80, wrap_id (n := (i : Int) + 1) (by omega) (by omega), Int.toNat_natCast]
    have hyl : ys.length ≤ 1048576 := by rw [hy, List.length_take]; unfold bkS; rw [List.length_map]; omega
    refine br_dec (fun h2 => ?_) (fun h2 => ?_)
    · refine br_yes ⟨by omega, h2⟩ (br_yes ⟨by omega, h2⟩ (br_yes ⟨by omega, h2⟩ (br_yes ?_ ?_)))
      · show (ys.length + 1) * 168 ≤ _
        omega
      · exact next (by omega) _ (by rw [hy]; exact (map_take bkOf s (edflt kc) (by omega)).symm)
    · show _ = _
      rw [hy, List.take_of_length_le (by unfold bkS; rw [List.length_map]; omega)]
  · exact h.elim
noncomputable def E85 : Env := Ef.of Tryz.f85
noncomputable def G85 : Gk := gk []
noncomputable def lp85 (n : Nat) : Code := (loopOf n (codeOf Tryz.f85)).getD .skip
noncomputable def ct85 (L : Lp) (R : Option Res → Prop) (n : Nat) : Kt := contOf E85 G85 L n (codeOf Tryz.f85) (endK E85 Tryz.f85.results.toList R)
noncomputable def rk85 (L : Lp) (R : Option Res → Prop) (n : Nat) (N : St → Prop) : Kt := rk (jof E85 (lp85 n)) N (ct85 L R n)
noncomputable def LOOP85 (L : Lp) (R : Option Res → Prop) (n : Nat) (st : St) : Prop := L (lp85 n) st (ct85 L R n)
theorem hg85 : HG Tryz.prog G85 := hg_nil
theorem okf85 : Ok Tryz.prog E85 := okf.of Tryz.f85
theorem e85 (L : Lp) (R : Option Res → Prop) (x : Int) (s : List (Elem kc)) (d p : List (Elem k3)) (b : Bool) (f : List (Elem ki)) (n : Int) : (bodyP Ef G85 L Tryz.f85 [coreAV x s d p b f n] [] R) = (
    LOOP85 L R 3 { tm := [vJ, vJ, AV.ptr 0 0, AV.ptr 2 0, vJ, vJ, vJ, AV.rsl kc s, vI (↑s.length : Int), vI 0, vJ, vJ, vJ, vJ, vJ, vJ, vJ, vJ, vJ, vJ, vJ, vJ, vJ, vJ, vJ, vJ, vJ], ob := [(0, AO.box [AV.ows 1]), (1, AO.row kb []), (2, AO.box [AV.ows 3]), (3, AO.row kb [])], nx := 1000000, ps := [] }) := by kernel_rfl
def st85 (x : Int) (s : List (Elem kc)) (d p : List (Elem k3)) (b : Bool) (f : List (Elem ki)) (n : Int) (i : Int) (ys : List (Elem kb)) : St :=  ⟨[vJ, vJ, AV.ptr 0 0, AV.ptr 2 0, vJ, vJ, vJ, AV.rsl kc s, vI (↑s.length : Int), .val (.int .i64 i), vJ, vJ, vJ, vJ, vJ, vJ, vJ, vJ, vJ, vJ, vJ, vJ, vJ, vJ, vJ, vJ, vJ], [(0, AO.box [AV.ows 1]), (1, AO.row kb []), (2, AO.box [AV.ows 3]), (3, .row kb ys)], 1000000, []⟩
theorem b85 (L : Lp) (R : Option Res → Prop) (N : St → Prop) (x : Int) (s : List (Elem kc)) (d p : List (Elem k3)) (b : Bool) (f : List (Elem ki)) (n : Int) (i : Int) (ys : List (Elem kb)) : (evP E85 G85 L (lp85 3) (st85 x s d p b f n i ys) (rk85 L R 3 N)) = (
    br (decide (i < (↑s.length : Int))) (br (decide (0 ≤ i ∧ i < (↑s.length : Int))) (br (decide ((ys.length + [((s.getD i.toNat (edflt kc)).fst, (s.getD i.toNat (edflt kc)).snd.fst, (s.getD i.toNat (edflt kc)).snd.snd.fst, ByteArray.empty, ByteArray.empty, ByteArray.empty, ByteArray.empty, ByteArray.empty, ByteArray.empty, ByteArray.empty, ByteArray.empty, ())].length) * 168 ≤ 140737488355328)) (N { tm := [vJ, vJ, AV.ptr 0 0, AV.ptr 2 0, vJ, vJ, vJ, AV.rsl kc s, vI (↑s.length : Int), vI (IntKind.i64.wrap (i + 1)), vJ, vJ, vJ, vJ, vJ, vJ, vJ, vJ, vJ, vJ, vJ, vJ, vJ, vJ, vJ, vJ, vJ], ob := [(0, AO.box [AV.ows 1]), (1, AO.row kb []), (2, AO.box [AV.ows 3]), (3, AO.row kb (ys ++ [((s.getD i.toNat (edflt kc)).fst, (s.getD i.toNat (edflt kc)).snd.fst, (s.getD i.toNat (edflt kc)).snd.snd.fst, ByteArray.empty, ByteArray.empty, ByteArray.empty, ByteArray.empty, ByteArray.empty, ByteArray.empty, ByteArray.empty, ByteArray.empty, ())]))], nx := 1000000, ps := [] }) False) False) (R (some { av := AV.agg [AV.ows 0], obs := [AO.row kb ys], outs := [] }))) := by kernel_rfl
theorem h85 : G1Ok Tryz.prog 85 g80 := by
  intro args obs k h
  unfold g80 at h
  split at h
  · rename_i k us
    split at h
    rotate_left
    · exact h.elim
    rename_i c hc
    obtain rfl := coreOf_inv hc
    obtain ⟨x, s, d, p, b, f, n⟩ := c
    obtain ⟨hp, h⟩ := br_and h
    have hl : s.length ≤ 1048576 := smCo_s hp
    refine ⟨_, ctr_fn okf hg85 Tryz.func85 (by kernel_rfl) (by kernel_rfl) (by kernel_rfl) fun C => ?_, h⟩
    show bodyP Ef G85 _ Tryz.f85 [coreAV x s d p b f n] [] _
    rw [e85]
    refine loopUp okf85 hg85 (fun i ys => st85 x s d p b f n i ys) s.length (fun i ys => ys = (bkS s).take i) (fun N i ys hi hy next => ?_) [] rfl
    show evP E85 G85 _ (lp85 3) (st85 x s d p b f n i ys) (rk85 _ _ 3 _)
    rw [b85, wrap_id (n := (i : Int) + 1) (by omega) (by omega), Int.toNat_natCast]
    have hyl : ys.length ≤ 1048576 := by rw [hy, List.length_take]; unfold bkS; rw [List.length_map]; omega
    refine br_dec (fun h2 => ?_) (fun h2 => ?_)
    · refine br_yes ⟨by omega, h2⟩ (br_yes ?_ ?_)
      · show (ys.length + 1) * 168 ≤ _
        omega
      · exact next (by omega) _ (by rw [hy]; exact (map_take bkOf s (edflt kc) (by omega)).symm)
    · show _ = _
      rw [hy, List.take_of_length_le (by unfold bkS; rw [List.length_map]; omega)]
  · exact h.elim
end Go.Proofs.YtkjnijddbiconaaGreatDoor.Ev
