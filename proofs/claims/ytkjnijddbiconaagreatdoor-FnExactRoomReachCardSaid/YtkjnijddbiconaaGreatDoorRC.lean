/- The law of RoomReach: the walks. -/
import Derived.Test.YtkjnijddbiconaaGreatDoorRC0
import Derived.Test.YtkjnijddbiconaaGreatDoorRF
namespace Go.Proofs.YtkjnijddbiconaaGreatDoor.Ev
open Go
set_option linter.unusedVariables false
set_option linter.unusedSimpArgs false
set_option maxRecDepth 100000
set_option maxHeartbeats 1000000
noncomputable def E60 : Env := Ef.of Tryz.f60
noncomputable def G60 : Gk := gk []
noncomputable def lp60 (n : Nat) : Code := (loopOf n (codeOf Tryz.f60)).getD .skip
noncomputable def ct60 (L : Lp) (R : Option Res → Prop) (n : Nat) : Kt := contOf E60 G60 L n (codeOf Tryz.f60) (endK E60 Tryz.f60.results.toList R)
noncomputable def rk60 (L : Lp) (R : Option Res → Prop) (n : Nat) (N : St → Prop) : Kt := rk (jof E60 (lp60 n)) N (ct60 L R n)
noncomputable def rkn60 (L : Lp) (R : Option Res → Prop) (n : Nat) (N : St → Prop) (m : Nat) (N2 : St → Prop) : Kt := rk (jof E60 (lp60 m)) N2 (contOf E60 G60 L m (lp60 n) (rk60 L R n N))
noncomputable def LOOPN60 (L : Lp) (R : Option Res → Prop) (n : Nat) (N : St → Prop) (m : Nat) (st : St) : Prop := L (lp60 m) st (contOf E60 G60 L m (lp60 n) (rk60 L R n N))
noncomputable def LOOP60 (L : Lp) (R : Option Res → Prop) (n : Nat) (st : St) : Prop := L (lp60 n) st (ct60 L R n)
theorem hg60 : HG Tryz.prog G60 := hg_nil
theorem okf60 : Ok Tryz.prog E60 := okf.of Tryz.f60
theorem e60 (L : Lp) (R : Option Res → Prop) (a : Int) : (bodyP Ef G60 L Tryz.f60 [.val (.int .i64 a)] [] R) = (
    R (some { av := vB (decide (a < 13)), obs := [], outs := [] })) := by kernel_rfl
theorem h60 : G1Ok Tryz.prog 60 g60 := by
  intro args obs k h
  unfold g60 at h
  split at h
  · rename_i k a
    refine ⟨_, ctr_fn okf hg60 Tryz.func60 (by kernel_rfl) (by kernel_rfl) (by kernel_rfl) fun C => ?_, h⟩
    rw [e60]
  · exact h.elim
noncomputable def E136 : Env := Ef.of Tryz.f136
noncomputable def G136 : Gk := gk [(60, g60)]
noncomputable def lp136 (n : Nat) : Code := (loopOf n (codeOf Tryz.f136)).getD .skip
noncomputable def ct136 (L : Lp) (R : Option Res → Prop) (n : Nat) : Kt := contOf E136 G136 L n (codeOf Tryz.f136) (endK E136 Tryz.f136.results.toList R)
noncomputable def rk136 (L : Lp) (R : Option Res → Prop) (n : Nat) (N : St → Prop) : Kt := rk (jof E136 (lp136 n)) N (ct136 L R n)
noncomputable def rkn136 (L : Lp) (R : Option Res → Prop) (n : Nat) (N : St → Prop) (m : Nat) (N2 : St → Prop) : Kt := rk (jof E136 (lp136 m)) N2 (contOf E136 G136 L m (lp136 n) (rk136 L R n N))
noncomputable def LOOPN136 (L : Lp) (R : Option Res → Prop) (n : Nat) (N : St → Prop) (m : Nat) (st : St) : Prop := L (lp136 m) st (contOf E136 G136 L m (lp136 n) (rk136 L R n N))
noncomputable def LOOP136 (L : Lp) (R : Option Res → Prop) (n : Nat) (st : St) : Prop := L (lp136 n) st (ct136 L R n)
theorem hg136 : HG Tryz.prog G136 := (hg_cons h60 hg_nil)
theorem okf136 : Ok Tryz.prog E136 := okf.of Tryz.f136
theorem e136 (L : Lp) (R : Option Res → Prop) (xs : List (Elem ki)) : (bodyP Ef G136 L Tryz.f136 [.rsl ki xs, .fn 60 []] [] R) = (
    LOOP136 L R 2 { tm := [AV.rsl ki xs, AV.fn 60 [], vJ, vJ, vJ, vJ, vJ, vI (↑xs.length : Int), vI 0, vJ, vJ, vJ, vJ, vJ, vJ, vJ, vJ, vJ, vJ], ob := [], nx := 1000000, ps := [] }) := by kernel_rfl
def st136 (xs : List (Elem ki)) (i : Int) : St :=  ⟨[AV.rsl ki xs, AV.fn 60 [], vJ, vJ, vJ, vJ, vJ, vI (↑xs.length : Int), .val (.int .i64 i), vJ, vJ, vJ, vJ, vJ, vJ, vJ, vJ, vJ, vJ], [], 1000000, []⟩
theorem b136 (L : Lp) (R : Option Res → Prop) (N : St → Prop) (xs : List (Elem ki)) (i : Int) : (evP E136 G136 L (lp136 2) (st136 xs i) (rk136 L R 2 N)) = (
    br (decide (i < (↑xs.length : Int))) (br (decide (0 ≤ i ∧ i < (↑xs.length : Int))) (br (decide ((xs.getD i.toNat (edflt ki)).fst < 13)) (R (some { av := vI i, obs := [], outs := [] })) (N { tm := [AV.rsl ki xs, AV.fn 60 [], vJ, vJ, vJ, vJ, vJ, vI (↑xs.length : Int), vI (IntKind.i64.wrap (i + 1)), vJ, vJ, vJ, vJ, vJ, vJ, vJ, vJ, vJ, vJ], ob := [], nx := 1000000, ps := [] })) False) (R (some { av := vI (-1), obs := [], outs := [] }))) := by kernel_rfl
theorem h136 : G1Ok Tryz.prog 136 g136 := by
  intro args obs k h
  unfold g136 at h
  split at h
  · rename_i k xs
    obtain ⟨hl, h⟩ := brd h
    refine ⟨_, ctr_fn okf hg136 Tryz.func136 (by kernel_rfl) (by kernel_rfl) (by kernel_rfl) fun C => ?_, h⟩
    rw [e136]
    refine loopFind okf136 hg136 (fun i => st136 xs i) xs.length (fun i => decide (atI xs i < 13)) (by omega) (fun N i hi hw next found none => ?_)
    show evP E136 G136 _ (lp136 2) (st136 xs i) (rk136 _ _ 2 _)
    rw [b136, hw, Int.toNat_natCast]
    refine br_dec (fun h2 => br_yes ⟨by omega, h2⟩ (br_intro (fun h3 => ?_) (fun h3 => ?_))) (fun h2 => ?_)
    · show _ = _
      rw [found (by omega) h3]
    · exact next (by omega) h3
    · show _ = _
      rw [none (by omega)]
  · exact h.elim
theorem fIx_cases (n : Nat) (p : Nat → Bool) : fIx n p = -1 ∨ ∃ i, i < n ∧ fIx n p = (i : Int) ∧ p i = true ∧ ∀ j, j < i → p j = false := by
  unfold fIx
  cases h : (List.range n).find? p with
  | none => exact .inl rfl
  | some i =>
    rw [List.find?_range_eq_some] at h
    exact .inr ⟨i, by simpa using h.2.1, rfl, h.1, fun j hj => by simpa using h.2.2 j hj⟩
theorem flat_ki (xs : List (Elem ki)) : flat ki xs = (xs.map fun (e : Elem ki) => (e.1 : Int)).map (Value.int .i64) := by
  induction xs with
  | nil => rfl
  | cons e xs ih =>
    show vals ki e ++ flat ki xs = _
    rw [ih]
    rfl
theorem quiet_eq {w w' : World} (h : w' = w) : Quiet w w' := by
  subst h
  exact Quiet.refl _
theorem h61 : G1Ok Tryz.prog 61 g61 := by
  intro args obs k h
  unfold g61 at h
  split at h
  · rename_i k xs
    obtain ⟨hl, h⟩ := brd h
    refine ⟨_, ctr_lturn (xs := xs) (ys := srI xs) Tryz.func61 (by kernel_rfl) (by kernel_rfl) (by unfold srI; simp) (fun w b cap cur e ht hb h1 h2 h3 => ?_) (fun _ w x => (Tryz.slices_Sort_int_none x 0 w).mono fun e w' he => ⟨he.1, quiet_eq he.2⟩), h⟩
    have hz : (xs.map fun (e : Elem ki) => (e.1 : Int)).length = xs.length := List.length_map _
    rw [flat_ki, List.length_map, hz] at h3
    have hsz : xs.length ≤ cur.size := Nat.le_trans h1 (Nat.le_trans (Nat.le_of_eq (Nat.mul_one cap).symm) h2)
    have hH := holds_of (Value.int .i64) (d := (xs.map fun (e : Elem ki) => (e.1 : Int)).toArray) hb (by simpa using h3)
    have key := Tryz.slices_Sort_int b 0 cap (xs.map fun (e : Elem ki) => (e.1 : Int)) w hH (Array.getElem?_eq_some_iff.1 hb).1 (by omega)
    rw [hz] at key
    refine key.mono fun e' w' ⟨he, q, os, hw⟩ => ?_
    have hp := put_cells (Value.int .i64) ((xs.map fun (e : Elem ki) => (e.1 : Int)).mergeSort fun x y => decide (x ≤ y)).toArray cur (by simpa using hsz)
    refine ⟨_, he, hp.1, hw ▸ alt_put (Value.int .i64) _ os hb, ?_⟩
    have hf : flat ki (srI xs) = ((xs.map fun (e : Elem ki) => (e.1 : Int)).mergeSort fun x y => decide (x ≤ y)).map (Value.int .i64) := by
      rw [flat_ki]
      unfold srI
      rw [map_elem]
    rw [hf]
    have := hp.2
    simpa using this
  · exact h.elim
theorem h62 : G1Ok Tryz.prog 62 g62 := by
  intro args obs k h
  unfold g62 at h
  split at h
  · rename_i k xs
    obtain ⟨hl, h⟩ := brd h
    refine ⟨_, ctr_lrow (xs := xs) (ys := cpI xs) Tryz.func62 (by kernel_rfl) (by kernel_rfl) (fun w b cap cur e ht hb h1 h2 h3 => ?_) (fun hx => ⟨by subst hx; rfl, fun w x => (Tryz.slices_Compact_int_empty x 0 w).mono fun e w' he => ⟨he.1, quiet_eq he.2⟩⟩), h⟩
    have hz : (xs.map fun (e : Elem ki) => (e.1 : Int)).length = xs.length := List.length_map _
    rw [flat_ki, List.length_map, hz] at h3
    have h2' : cap ≤ cur.size := Nat.le_trans (Nat.le_of_eq (Nat.mul_one cap).symm) h2
    have hsz : xs.length ≤ cur.size := Nat.le_trans h1 h2'
    have hH := holds_of (Value.int .i64) (d := (xs.map fun (e : Elem ki) => (e.1 : Int)).toArray) hb (by simpa using h3)
    have key := Tryz.slices_Compact_int b 0 cap (xs.map fun (e : Elem ki) => (e.1 : Int)) w hH (by omega) (by omega)
    rw [hz] at key
    have hcl := Lib.compact_length_le (xs.map fun (e : Elem ki) => (e.1 : Int))
    rw [hz] at hcl
    have hyl : (cpI xs).length = (Lib.compact (xs.map fun (e : Elem ki) => (e.1 : Int))).length := by unfold cpI; rw [List.length_map]
    refine key.mono fun e' w' ⟨he, q, hw⟩ => ?_
    have hds : (Lib.compact (xs.map fun (e : Elem ki) => (e.1 : Int)) ++ List.replicate (xs.length - (Lib.compact (xs.map fun (e : Elem ki) => (e.1 : Int))).length) 0).toArray.size = xs.length := by
      simp
      omega
    have hp := put_cells (Value.int .i64) (Lib.compact (xs.map fun (e : Elem ki) => (e.1 : Int)) ++ List.replicate (xs.length - (Lib.compact (xs.map fun (e : Elem ki) => (e.1 : Int))).length) 0).toArray cur (by rw [hds]; exact hsz)
    have ha := alt_put (n := q) (Value.int .i64) (Lib.compact (xs.map fun (e : Elem ki) => (e.1 : Int)) ++ List.replicate (xs.length - (Lib.compact (xs.map fun (e : Elem ki) => (e.1 : Int))).length) 0).toArray #[] hb
    rw [Sort.grow_empty, ← hw] at ha
    refine ⟨cap, _, by rw [hyl]; exact he, by omega, by rw [hp.1]; exact h2, ha, ?_⟩
    have hf : flat ki (cpI xs) = (Lib.compact (xs.map fun (e : Elem ki) => (e.1 : Int))).map (Value.int .i64) := by
      rw [flat_ki]
      unfold cpI
      rw [map_elem]
    have h4 := hp.2
    rw [hds] at h4
    rw [hf, List.length_map]
    have h5 := congrArg (List.take (Lib.compact (xs.map fun (e : Elem ki) => (e.1 : Int))).length) h4
    rw [List.take_take, Nat.min_eq_left hcl] at h5
    rw [h5]
    simp only [List.map_append]
    rw [List.take_append_of_le_length (by simp), List.take_of_length_le (by simp)]
  · exact h.elim
noncomputable def E59 : Env := E2.of Tryz.f59
noncomputable def G59 : Gk := gk [(136, g136), (60, g60)]
noncomputable def lp59 (n : Nat) : Code := (loopOf n (codeOf Tryz.f59)).getD .skip
noncomputable def ct59 (L : Lp) (R : Option Res → Prop) (n : Nat) : Kt := contOf E59 G59 L n (codeOf Tryz.f59) (endK E59 Tryz.f59.results.toList R)
noncomputable def rk59 (L : Lp) (R : Option Res → Prop) (n : Nat) (N : St → Prop) : Kt := rk (jof E59 (lp59 n)) N (ct59 L R n)
noncomputable def rkn59 (L : Lp) (R : Option Res → Prop) (n : Nat) (N : St → Prop) (m : Nat) (N2 : St → Prop) : Kt := rk (jof E59 (lp59 m)) N2 (contOf E59 G59 L m (lp59 n) (rk59 L R n N))
noncomputable def LOOPN59 (L : Lp) (R : Option Res → Prop) (n : Nat) (N : St → Prop) (m : Nat) (st : St) : Prop := L (lp59 m) st (contOf E59 G59 L m (lp59 n) (rk59 L R n N))
noncomputable def LOOP59 (L : Lp) (R : Option Res → Prop) (n : Nat) (st : St) : Prop := L (lp59 n) st (ct59 L R n)
theorem hg59 : HG Tryz.prog G59 := (hg_cons h136 (hg_cons h60 hg_nil))
theorem okf59 : Ok Tryz.prog E59 := ok2.of Tryz.f59
theorem e59 (L : Lp) (R : Option Res → Prop) (xs : List (Elem ki)) : (bodyP E2 G59 L Tryz.f59 [.ows 0, .fn 60 []] [.row ki xs] R) = (
    br (decide (xs.length ≤ 1048576)) (br ((fIx xs.length fun i => decide (atI xs i < 13)) == -1) (R (some { av := AV.ows 0, obs := [AO.row ki xs], outs := [none] })) (LOOP59 L R 5 { tm := [AV.ows 0, AV.fn 60 [], vJ, vJ, vJ, vI (fIx xs.length fun i => decide (atI xs i < 13)), vI (IntKind.i64.wrap ((fIx xs.length fun i => decide (atI xs i < 13)) + 1)), vJ, vJ, vJ, vJ, vJ, vJ, vJ, vJ, vJ, vJ, vJ, vJ, vJ, vJ, vJ, vJ, vJ, vJ, vJ, vJ, vJ, vJ, vJ, vJ, vJ, vJ, vJ, vJ, vJ, vJ, vJ, vJ, vJ, vJ, vJ], ob := [(0, AO.row ki xs)], nx := 1000000, ps := [some 0] })) False) := by kernel_rfl
def st59 (i j : Int) (ys : List (Elem ki)) : St :=  ⟨[AV.ows 0, AV.fn 60 [], vJ, vJ, vJ, .val (.int .i64 i), .val (.int .i64 j), vJ, vJ, vJ, vJ, vJ, vJ, vJ, vJ, vJ, vJ, vJ, vJ, vJ, vJ, vJ, vJ, vJ, vJ, vJ, vJ, vJ, vJ, vJ, vJ, vJ, vJ, vJ, vJ, vJ, vJ, vJ, vJ, vJ, vJ, vJ], [(0, .row ki ys)], 1000000, [some 0]⟩
theorem b59 (L : Lp) (R : Option Res → Prop) (N : St → Prop) (i j : Int) (ys : List (Elem ki)) : (evP E59 G59 L (lp59 5) (st59 i j ys) (rk59 L R 5 N)) = (
    br (decide (j < (↑ys.length : Int))) (br (decide (0 ≤ j ∧ j < (↑ys.length : Int))) (br (!decide ((ys.getD j.toNat (edflt ki)).fst < 13)) (br (decide (0 ≤ i ∧ i < (↑ys.length : Int))) (N { tm := [AV.ows 0, AV.fn 60 [], vJ, vJ, vJ, vI (IntKind.i64.wrap (i + 1)), vI (IntKind.i64.wrap (j + 1)), vJ, vJ, vJ, vJ, vJ, vJ, vJ, vJ, vJ, vJ, vJ, vJ, vJ, vJ, vJ, vJ, vJ, vJ, vJ, vJ, vJ, vJ, vJ, vJ, vJ, vJ, vJ, vJ, vJ, vJ, vJ, vJ, vJ, vJ, vJ], ob := [(0, AO.row ki (ys.set i.toNat (ys.getD j.toNat (edflt ki))))], nx := 1000000, ps := [some 0] }) False) (N { tm := [AV.ows 0, AV.fn 60 [], vJ, vJ, vJ, vI i, vI (IntKind.i64.wrap (j + 1)), vJ, vJ, vJ, vJ, vJ, vJ, vJ, vJ, vJ, vJ, vJ, vJ, vJ, vJ, vJ, vJ, vJ, vJ, vJ, vJ, vJ, vJ, vJ, vJ, vJ, vJ, vJ, vJ, vJ, vJ, vJ, vJ, vJ, vJ, vJ], ob := [(0, AO.row ki ys)], nx := 1000000, ps := [some 0] })) False) (br (decide (0 ≤ i ∧ i ≤ (↑ys.length : Int) ∧ (↑ys.length : Int) ≤ (↑ys.length : Int) ∧ (↑ys.length : Int) ≤ (↑ys.length : Int))) (br (decide ((0 : Int) ≤ 0 ∧ 0 ≤ i ∧ i ≤ (↑(zapR ki ys i.toNat ((↑ys.length : Int) - i).toNat).length : Int) ∧ (↑(zapR ki ys i.toNat ((↑ys.length : Int) - i).toNat).length : Int) ≤ (↑(zapR ki ys i.toNat ((↑ys.length : Int) - i).toNat).length : Int))) (R (some { av := AV.osl 0 0 (i - 0).toNat, obs := [AO.row ki (zapR ki ys i.toNat ((↑ys.length : Int) - i).toNat)], outs := [none] })) False) False)) := by kernel_rfl
theorem keep_next (xs : List (Elem ki)) (q : Elem ki → Bool) {j : Nat} (hj : j < xs.length) : (xs.take (j + 1)).filter q = (xs.take j).filter q ++ match q (xs.getD j (edflt ki)) with | true => [xs.getD j (edflt ki)] | false => [] := by
  rw [take_next xs (edflt ki) hj, List.filter_append]
  have e : List.filter q [xs.getD j (edflt ki)] = match q (xs.getD j (edflt ki)) with | true => [xs.getD j (edflt ki)] | false => [] := by
    rw [List.filter_cons]
    show (if q (xs.getD j (edflt ki)) = true then _ else _) = _
    cases q (xs.getD j (edflt ki)) <;> rfl
  exact congrArg _ e
abbrev kpI (e : Elem ki) : Bool := !decide ((e.1 : Int) < 13)
theorem drop_at {xs ys : List (Elem ki)} {j : Nat} (h : ys.drop j = xs.drop j) (hl : ys.length = xs.length) (hj : j < xs.length) : ys.getD j (edflt ki) = xs.getD j (edflt ki) := by
  rw [List.getD_eq_getElem?_getD, List.getD_eq_getElem?_getD]
  have := congrArg (fun l : List (Elem ki) => l[0]?) h
  simp only [List.getElem?_drop, Nat.add_zero] at this
  rw [this]
theorem drop_more {xs ys : List (Elem ki)} {j : Nat} (h : ys.drop j = xs.drop j) : ys.drop (j + 1) = xs.drop (j + 1) := by
  have := congrArg (List.drop 1) h
  rwa [List.drop_drop, List.drop_drop] at this
theorem zap_take (ys : List (Elem ki)) {i : Nat} (h : i ≤ ys.length) : (zapR ki ys i (ys.length - i)).take i = ys.take i := by
  unfold zapR
  rw [List.append_assoc, List.take_append_of_le_length (by rw [List.length_take]; omega), List.take_take, Nat.min_self]
theorem zap_len (ys : List (Elem ki)) {i : Nat} (h : i ≤ ys.length) : (zapR ki ys i (ys.length - i)).length = ys.length := by
  unfold zapR
  simp
  omega
theorem h59 : G1Ok Tryz.prog 59 g59 := by
  intro args obs k h
  unfold g59 at h
  split at h
  · rename_i k xs
    obtain ⟨hl, h⟩ := brd h
    refine ⟨_, ctr_take ok2 hg59 Tryz.func59 (by kernel_rfl) (by kernel_rfl) (by kernel_rfl) fun C => ?_, h⟩
    rw [e59]
    refine br_yes hl (br_intro (fun h1 => ?_) (fun h1 => ?_))
    · have h1 : (fIx xs.length fun i => decide (atI xs i < 13)) = -1 := eq_of_beq h1
      refine .inr ⟨[none], ?_⟩
      have : xs.filter kpI = xs := by
        rw [List.filter_eq_self]
        intro e he
        obtain ⟨i, hi, e2⟩ := List.getElem_of_mem he
        have h3 : decide (atI xs i < 13) = false := by
          cases hh : decide (atI xs i < 13) with
          | false => rfl
          | true =>
            have hge := fIx_ge (n := xs.length) (p := fun i => decide (atI xs i < 13))
            rw [h1, anyB_t (i := i) hi hh] at hge
            exact absurd hge (by decide)
        have h4 : atI xs i = e.1 := by
          show (xs.getD i (edflt ki)).1 = _
          rw [List.getD_eq_getElem?_getD, List.getElem?_eq_getElem hi, ← e2]
          rfl
        rw [h4] at h3
        show (!decide ((e.1 : Int) < 13)) = true
        rw [h3]
        rfl
      rw [this]
    · have hx := fIx_cases xs.length fun i => decide (atI xs i < 13)
      have h1 : (fIx xs.length fun i => decide (atI xs i < 13)) ≠ -1 := beq_eq_false_iff_ne.1 h1
      obtain ⟨i0, hi0, he, hp, hlow⟩ := hx.resolve_left h1
      rw [he]
      have hw : IntKind.i64.wrap ((i0 : Int) + 1) = ((i0 + 1 : Nat) : Int) := by rw [wrap_id (by omega) (by omega)]; omega
      rw [hw]
      have start0 : (xs.take (i0 + 1)).filter kpI = xs.take i0 := by
        rw [keep_next xs kpI hi0]
        have h5 : kpI (xs.getD i0 (edflt ki)) = false := by
          show (!decide (atI xs i0 < 13)) = false
          rw [hp]
          rfl
        rw [h5, List.append_nil, List.filter_eq_self]
        intro e hm
        obtain ⟨j, hj, e2⟩ := List.getElem_of_mem hm
        rw [List.length_take] at hj
        rw [List.getElem_take] at e2
        have h6 := hlow j (by omega)
        have h7 : atI xs j = e.1 := by
          show (xs.getD j (edflt ki)).1 = _
          rw [List.getD_eq_getElem?_getD, List.getElem?_eq_getElem (by omega : j < xs.length), ← e2]
          rfl
        rw [h7] at h6
        show (!decide ((e.1 : Int) < 13)) = true
        rw [h6]
        rfl
      refine loopUpFrom okf59 hg59 (fun j (a : Nat × List (Elem ki)) => st59 a.1 j a.2) xs.length (fun j a => a.2.length = xs.length ∧ a.1 < j ∧ a.2.take a.1 = (xs.take j).filter kpI ∧ a.2.drop j = xs.drop j) (fun N j ⟨i, ys⟩ hj ⟨hyl, hij, hyt, hyd⟩ next => ?_) (i0 + 1) (by omega) (i0, xs) ⟨rfl, by show i0 < i0 + 1; omega, start0.symm, rfl⟩
      show evP E59 G59 _ (lp59 5) (st59 i j ys) (rk59 _ _ 5 _)
      simp only at hyl hij hyt hyd
      have hz : ((ys.length : Int) - (i : Int)).toNat = ys.length - i := by omega
      rw [b59, wrap_id (n := (i : Int) + 1) (by omega) (by omega), wrap_id (n := (j : Int) + 1) (by omega) (by omega), Int.toNat_natCast, Int.toNat_natCast, hz]
      refine br_dec (fun h2 => br_yes ⟨by omega, h2⟩ (br_intro (fun h3 => br_yes ⟨by omega, by omega⟩ ?_) (fun h3 => ?_))) (fun h2 => br_yes ⟨by omega, by omega, by omega, by omega⟩ (br_yes ?_ ?_))
      · have hjx : j < xs.length := by omega
        have hk : kpI (xs.getD j (edflt ki)) = true := by rw [← drop_at hyd hyl hjx]; exact h3
        have e1 : ((i : Int) + 1) = ((i + 1 : Nat) : Int) := by omega
        rw [e1]
        refine next (by omega) (i + 1, ys.set i (ys.getD j (edflt ki))) ⟨by show (ys.set i _).length = _; rw [List.length_set]; exact hyl, by show i + 1 < j + 1; omega, ?_, ?_⟩
        · show (ys.set i (ys.getD j (edflt ki))).take (i + 1) = _
          rw [keep_next xs kpI hjx, hk, ← hyt, drop_at hyd hyl hjx, List.take_add_one, List.take_set_of_le (Nat.le_refl i), List.getElem?_set_self (by omega)]
          rfl
        · show (ys.set i (ys.getD j (edflt ki))).drop (j + 1) = _
          rw [List.drop_set_of_lt (by omega), drop_more hyd]
      · have hjx : j < xs.length := by omega
        have hk : kpI (xs.getD j (edflt ki)) = false := by rw [← drop_at hyd hyl hjx]; exact h3
        exact next (by omega) (i, ys) ⟨hyl, by show i < j + 1; omega, by show ys.take i = _; rw [keep_next xs kpI hjx, hk, List.append_nil]; exact hyt, drop_more hyd⟩
      · rw [zap_len ys (by omega)]
        omega
      · have hjn : j = xs.length := by omega
        rw [hjn, List.take_length] at hyt
        refine .inl ⟨i, _, _, by rw [show ((i : Int) - 0).toNat = i from by omega], ?_⟩
        rw [zap_take ys (by omega)]
        exact hyt
  · exact h.elim
noncomputable def E125 : Env := E2.of Tryz.f125
noncomputable def G125 : Gk := gk [(73, g73)]
noncomputable def lp125 (n : Nat) : Code := (loopOf n (codeOf Tryz.f125)).getD .skip
noncomputable def ct125 (L : Lp) (R : Option Res → Prop) (n : Nat) : Kt := contOf E125 G125 L n (codeOf Tryz.f125) (endK E125 Tryz.f125.results.toList R)
noncomputable def rk125 (L : Lp) (R : Option Res → Prop) (n : Nat) (N : St → Prop) : Kt := rk (jof E125 (lp125 n)) N (ct125 L R n)
noncomputable def rkn125 (L : Lp) (R : Option Res → Prop) (n : Nat) (N : St → Prop) (m : Nat) (N2 : St → Prop) : Kt := rk (jof E125 (lp125 m)) N2 (contOf E125 G125 L m (lp125 n) (rk125 L R n N))
noncomputable def LOOPN125 (L : Lp) (R : Option Res → Prop) (n : Nat) (N : St → Prop) (m : Nat) (st : St) : Prop := L (lp125 m) st (contOf E125 G125 L m (lp125 n) (rk125 L R n N))
noncomputable def LOOP125 (L : Lp) (R : Option Res → Prop) (n : Nat) (st : St) : Prop := L (lp125 n) st (ct125 L R n)
theorem hg125 : HG Tryz.prog G125 := (hg_cons h73 hg_nil)
theorem okf125 : Ok Tryz.prog E125 := ok2.of Tryz.f125
theorem e125 (L : Lp) (R : Option Res → Prop) (xs : List (Elem ki)) (t : Int) : (bodyP E2 G125 L Tryz.f125 [.ows 0, .val (.int .i64 t)] [.row ki xs] R) = (
    br (decide (t < 13)) (R (some { av := AV.ows 0, obs := [AO.row ki xs], outs := [none] })) (br (decide (xs.length ≤ 1048576)) (br (hasF xs t) (R (some { av := AV.ows 0, obs := [AO.row ki xs], outs := [none] })) (LOOP125 L R 4 { tm := [AV.ows 0, vI t, vJ, vJ, vJ, vI 0, vJ, vJ, vJ, vJ, vJ, vJ, vJ, vJ, vJ, vJ, vJ, vJ, vJ, vJ, vJ, vJ, vJ, vJ, vJ, vJ, vJ, vJ, vJ, vJ, vJ, vJ, vJ, vJ, vJ, vJ, vJ, vJ, vJ, vJ, vJ, vJ], ob := [(0, AO.row ki xs)], nx := 1000000, ps := [some 0] })) False)) := by kernel_rfl
def st125 (xs : List (Elem ki)) (t i : Int) : St :=  ⟨[AV.ows 0, vI t, vJ, vJ, vJ, .val (.int .i64 i), vJ, vJ, vJ, vJ, vJ, vJ, vJ, vJ, vJ, vJ, vJ, vJ, vJ, vJ, vJ, vJ, vJ, vJ, vJ, vJ, vJ, vJ, vJ, vJ, vJ, vJ, vJ, vJ, vJ, vJ, vJ, vJ, vJ, vJ, vJ, vJ], [(0, AO.row ki xs)], 1000000, [some 0]⟩
theorem b125 (L : Lp) (R : Option Res → Prop) (N : St → Prop) (xs : List (Elem ki)) (t i : Int) : (evP E125 G125 L (lp125 4) (st125 xs t i) (rk125 L R 4 N)) = (
    br (decide (i < (↑xs.length : Int))) (br (decide (0 ≤ i ∧ i < (↑xs.length : Int))) (br (decide ((xs.getD i.toNat (edflt ki)).fst < t)) (N { tm := [AV.ows 0, vI t, vJ, vJ, vJ, vI (IntKind.i64.wrap (i + 1)), vJ, vJ, vJ, vJ, vJ, vJ, vJ, vJ, vJ, vJ, vJ, vJ, vJ, vJ, vJ, vJ, vJ, vJ, vJ, vJ, vJ, vJ, vJ, vJ, vJ, vJ, vJ, vJ, vJ, vJ, vJ, vJ, vJ, vJ, vJ, vJ], ob := [(0, AO.row ki xs)], nx := 1000000, ps := [some 0] }) (br (decide (0 ≤ i ∧ i ≤ (↑xs.length : Int) ∧ (↑xs.length : Int) ≤ (↑xs.length : Int) ∧ (↑xs.length : Int) ≤ (↑xs.length : Int))) (br (decide ((0 + (List.take ((↑xs.length : Int) - i).toNat (List.drop i.toNat xs)).length) * 8 ≤ 140737488355328)) (br (decide ((0 : Int) ≤ 0 ∧ 0 ≤ i ∧ i ≤ (↑xs.length : Int) ∧ (↑xs.length : Int) ≤ (↑xs.length : Int))) (br (decide (((List.take (i - 0).toNat (List.drop 0 xs)).length + [(t, ())].length) * 8 ≤ 140737488355328)) (br (decide (((List.take (i - 0).toNat (List.drop 0 xs) ++ [(t, ())]).length + ([] ++ List.take ((↑xs.length : Int) - i).toNat (List.drop i.toNat xs)).length) * 8 ≤ 140737488355328)) (R (some { av := AV.ows 0, obs := [AO.row ki (List.take (i - 0).toNat (List.drop 0 xs) ++ [(t, ())] ++ ([] ++ List.take ((↑xs.length : Int) - i).toNat (List.drop i.toNat xs)))], outs := [none] })) False) False) False) False) False)) False) (br (decide (0 ≤ i ∧ i ≤ (↑xs.length : Int) ∧ (↑xs.length : Int) ≤ (↑xs.length : Int) ∧ (↑xs.length : Int) ≤ (↑xs.length : Int))) (br (decide ((0 + (List.take ((↑xs.length : Int) - i).toNat (List.drop i.toNat xs)).length) * 8 ≤ 140737488355328)) (br (decide ((0 : Int) ≤ 0 ∧ 0 ≤ i ∧ i ≤ (↑xs.length : Int) ∧ (↑xs.length : Int) ≤ (↑xs.length : Int))) (br (decide (((List.take (i - 0).toNat (List.drop 0 xs)).length + [(t, ())].length) * 8 ≤ 140737488355328)) (br (decide (((List.take (i - 0).toNat (List.drop 0 xs) ++ [(t, ())]).length + ([] ++ List.take ((↑xs.length : Int) - i).toNat (List.drop i.toNat xs)).length) * 8 ≤ 140737488355328)) (R (some { av := AV.ows 0, obs := [AO.row ki (List.take (i - 0).toNat (List.drop 0 xs) ++ [(t, ())] ++ ([] ++ List.take ((↑xs.length : Int) - i).toNat (List.drop i.toNat xs)))], outs := [none] })) False) False) False) False) False)) := by kernel_rfl
theorem h125 : G1Ok Tryz.prog 125 g125 := by
  intro args obs k h
  unfold g125 at h
  split at h
  · rename_i k t xs
    obtain ⟨hl, h⟩ := brd h
    refine ⟨_, ctr_fn ok2 hg125 Tryz.func125 (by kernel_rfl) (by kernel_rfl) (by kernel_rfl) fun C => ?_, h⟩
    rw [e125]
    have yes : (decide (t < 13) || hasF xs t) = true → (some ⟨.ows 0, [.row ki xs], [none]⟩ : Option Res) = some ⟨.ows 0, [.row [.int .i64] (addI xs t)], [none]⟩ := fun h => by
      unfold addI
      rw [h]
    refine br_dec (fun h1 => yes (by rw [decide_eq_true h1]; rfl)) (fun h1 => br_yes hl (br_intro (fun h2 => yes (by rw [h2, Bool.or_true])) (fun h2 => ?_)))
    have no : ∀ i : Nat, i ≤ xs.length → kI xs t = i → (some ⟨.ows 0, [.row ki (List.take ((i : Int) - 0).toNat (List.drop 0 xs) ++ [(t, ())] ++ ([] ++ List.take ((xs.length : Int) - (i : Int)).toNat (List.drop (i : Int).toNat xs)))], [none]⟩ : Option Res) = some ⟨.ows 0, [.row [.int .i64] (addI xs t)], [none]⟩ := by
      intro i hi hk
      unfold addI
      have e1 : List.take (xs.length - i) (List.drop i xs) = List.drop i xs := List.take_of_length_le (by rw [List.length_drop]; omega)
      rw [decide_eq_false h1, h2, hk, List.nil_append, List.drop_zero, show ((i : Int) - 0).toNat = i from by omega, Int.toNat_natCast, show ((xs.length : Int) - (i : Int)).toNat = xs.length - i from by omega, e1]
      rfl
    have sz : ∀ i : Nat, i ≤ xs.length → (0 + (List.take ((xs.length : Int) - (i : Int)).toNat (List.drop (i : Int).toNat xs)).length) * 8 ≤ 140737488355328 ∧ ((List.take ((i : Int) - 0).toNat (List.drop 0 xs)).length + [(t, ())].length) * 8 ≤ 140737488355328 ∧ ((List.take ((i : Int) - 0).toNat (List.drop 0 xs) ++ [(t, ())]).length + ([] ++ List.take ((xs.length : Int) - (i : Int)).toNat (List.drop (i : Int).toNat xs)).length) * 8 ≤ 140737488355328 := by
      intro i hi
      simp only [List.length_take, List.length_drop, List.length_append, List.length_cons, List.length_nil, Int.toNat_natCast]
      omega
    refine loopLn okf125 hg125 (fun i => st125 xs t i) xs.length (fun i => decide (atI xs i < t)) (by omega) (fun N i hi hw next stop done => ?_)
    show evP E125 G125 _ (lp125 4) (st125 xs t i) (rk125 _ _ 4 _)
    obtain ⟨s1, s2, s3⟩ := sz i hi
    rw [b125, hw]
    refine br_dec (fun h3 => br_yes ⟨by omega, h3⟩ ?_) (fun h3 => br_yes ⟨by omega, by omega, by omega, by omega⟩ (br_yes s1 (br_yes ⟨by omega, by omega, by omega, by omega⟩ (br_yes s2 (br_yes s3 ?_)))))
    · have hg : (xs.getD (i : Int).toNat (edflt ki)).1 = atI xs i := by rw [Int.toNat_natCast]
      refine br_dec (fun h4 => next (by omega) (decide_eq_true (by rw [← hg]; exact h4))) (fun h4 => br_yes ⟨by omega, by omega, by omega, by omega⟩ (br_yes s1 (br_yes ⟨by omega, by omega, by omega, by omega⟩ (br_yes s2 (br_yes s3 ?_)))))
      exact no i hi (stop (by omega) (decide_eq_false (by rw [← hg]; exact h4)))
    · exact no i hi (done (by omega))
  · exact h.elim
noncomputable def E53 : Env := E2.of Tryz.f53
noncomputable def G53 : Gk := gk [(125, g125)]
noncomputable def lp53 (n : Nat) : Code := (loopOf n (codeOf Tryz.f53)).getD .skip
noncomputable def ct53 (L : Lp) (R : Option Res → Prop) (n : Nat) : Kt := contOf E53 G53 L n (codeOf Tryz.f53) (endK E53 Tryz.f53.results.toList R)
noncomputable def rk53 (L : Lp) (R : Option Res → Prop) (n : Nat) (N : St → Prop) : Kt := rk (jof E53 (lp53 n)) N (ct53 L R n)
noncomputable def rkn53 (L : Lp) (R : Option Res → Prop) (n : Nat) (N : St → Prop) (m : Nat) (N2 : St → Prop) : Kt := rk (jof E53 (lp53 m)) N2 (contOf E53 G53 L m (lp53 n) (rk53 L R n N))
noncomputable def LOOPN53 (L : Lp) (R : Option Res → Prop) (n : Nat) (N : St → Prop) (m : Nat) (st : St) : Prop := L (lp53 m) st (contOf E53 G53 L m (lp53 n) (rk53 L R n N))
noncomputable def LOOP53 (L : Lp) (R : Option Res → Prop) (n : Nat) (st : St) : Prop := L (lp53 n) st (ct53 L R n)
theorem hg53 : HG Tryz.prog G53 := (hg_cons h125 hg_nil)
theorem okf53 : Ok Tryz.prog E53 := ok2.of Tryz.f53
theorem e53 (L : Lp) (R : Option Res → Prop) (x : Int) (s : List (Elem kc)) (d p : List (Elem k3)) (b : Bool) (f : List (Elem ki)) (n m : Int) : (bodyP E2 G53 L Tryz.f53 [coreAV x s d p b f n, .val (.int .i64 m)] [] R) = (
    LOOP53 L R 3 { tm := [vJ, vJ, AV.ptr 0 0, vJ, vJ, AV.ows 1, vI 0, vJ, vJ, vJ, vJ, vJ, vJ, vJ, vJ, vJ, vJ, vJ, vJ, vJ, vJ, vJ, vJ, vJ, vJ, vJ, vJ, vJ, vJ, vJ, vJ, vJ, vJ, vJ, vJ, vJ, vJ, vJ, vJ, vJ, vJ, vJ, vJ, vJ, vJ, vJ, vJ, vJ, vJ, vJ, vJ, vJ, vJ, vJ, vJ, vJ, vJ, vJ, vJ], ob := [(0, AO.box [vI x, AV.rsl kc s, AV.rsl k3 d, AV.rsl k3 p, vB b, AV.rsl ki f, vI n]), (1, AO.row ki (addI [] m))], nx := 1000000, ps := [] }) := by kernel_rfl
def sa53 (x : Int) (s : List (Elem kc)) (d p : List (Elem k3)) (b : Bool) (f : List (Elem ki)) (n m : Int) (i : Int) (ys : List (Elem ki)) : St :=  ⟨[vJ, vJ, AV.ptr 0 0, vJ, vJ, AV.ows 1, .val (.int .i64 i), vJ, vJ, vJ, vJ, vJ, vJ, vJ, vJ, vJ, vJ, vJ, vJ, vJ, vJ, vJ, vJ, vJ, vJ, vJ, vJ, vJ, vJ, vJ, vJ, vJ, vJ, vJ, vJ, vJ, vJ, vJ, vJ, vJ, vJ, vJ, vJ, vJ, vJ, vJ, vJ, vJ, vJ, vJ, vJ, vJ, vJ, vJ, vJ, vJ, vJ, vJ, vJ], [(0, AO.box [vI x, AV.rsl kc s, AV.rsl k3 d, AV.rsl k3 p, vB b, AV.rsl ki f, vI n]), (1, .row ki ys)], 1000000, []⟩
theorem ba53 (L : Lp) (R : Option Res → Prop) (N : St → Prop) (x : Int) (s : List (Elem kc)) (d p : List (Elem k3)) (b : Bool) (f : List (Elem ki)) (n m : Int) (i : Int) (ys : List (Elem ki)) : (evP E53 G53 L (lp53 3) (sa53 x s d p b f n m i ys) (rk53 L R 3 N)) = (
    br (decide (i < (↑d.length : Int))) (br (decide (0 ≤ i ∧ i < (↑d.length : Int))) (br (decide (ys.length ≤ 1048576)) (N { tm := [vJ, vJ, AV.ptr 0 0, vJ, vJ, AV.ows 1, vI (IntKind.i64.wrap (i + 1)), vJ, vJ, vJ, vJ, vJ, vJ, vJ, vJ, vJ, vJ, vJ, vJ, vJ, vJ, vJ, vJ, vJ, vJ, vJ, vJ, vJ, vJ, vJ, vJ, vJ, vJ, vJ, vJ, vJ, vJ, vJ, vJ, vJ, vJ, vJ, vJ, vJ, vJ, vJ, vJ, vJ, vJ, vJ, vJ, vJ, vJ, vJ, vJ, vJ, vJ, vJ, vJ], ob := [(0, AO.box [vI x, AV.rsl kc s, AV.rsl k3 d, AV.rsl k3 p, vB b, AV.rsl ki f, vI n]), (1, AO.row ki (addI ys (d.getD i.toNat (edflt k3)).snd.fst))], nx := 1000000, ps := [] }) False) False) (LOOP53 L R 7 { tm := [vJ, vJ, AV.ptr 0 0, vJ, vJ, AV.ows 1, vJ, vI 0, vJ, vJ, vJ, vJ, vJ, vJ, vJ, vJ, vJ, vJ, vJ, vJ, vJ, vJ, vJ, vJ, vJ, vJ, vJ, vJ, vJ, vJ, vJ, vJ, vJ, vJ, vJ, vJ, vJ, vJ, vJ, vJ, vJ, vJ, vJ, vJ, vJ, vJ, vJ, vJ, vJ, vJ, vJ, vJ, vJ, vJ, vJ, vJ, vJ, vJ, vJ], ob := [(0, AO.box [vI x, AV.rsl kc s, AV.rsl k3 d, AV.rsl k3 p, vB b, AV.rsl ki f, vI n]), (1, AO.row ki ys)], nx := 1000000, ps := [] })) := by kernel_rfl
def sb53 (x : Int) (s : List (Elem kc)) (d p : List (Elem k3)) (b : Bool) (f : List (Elem ki)) (n m : Int) (i : Int) (ys : List (Elem ki)) : St :=  ⟨[vJ, vJ, AV.ptr 0 0, vJ, vJ, AV.ows 1, vJ, .val (.int .i64 i), vJ, vJ, vJ, vJ, vJ, vJ, vJ, vJ, vJ, vJ, vJ, vJ, vJ, vJ, vJ, vJ, vJ, vJ, vJ, vJ, vJ, vJ, vJ, vJ, vJ, vJ, vJ, vJ, vJ, vJ, vJ, vJ, vJ, vJ, vJ, vJ, vJ, vJ, vJ, vJ, vJ, vJ, vJ, vJ, vJ, vJ, vJ, vJ, vJ, vJ, vJ], [(0, AO.box [vI x, AV.rsl kc s, AV.rsl k3 d, AV.rsl k3 p, vB b, AV.rsl ki f, vI n]), (1, .row ki ys)], 1000000, []⟩
theorem bb53 (L : Lp) (R : Option Res → Prop) (N : St → Prop) (x : Int) (s : List (Elem kc)) (d p : List (Elem k3)) (b : Bool) (f : List (Elem ki)) (n m : Int) (i : Int) (ys : List (Elem ki)) : (evP E53 G53 L (lp53 7) (sb53 x s d p b f n m i ys) (rk53 L R 7 N)) = (
    br (decide (i < (↑s.length : Int))) (br (decide (0 ≤ i ∧ i < (↑s.length : Int))) (br (decide (ys.length ≤ 1048576)) (N { tm := [vJ, vJ, AV.ptr 0 0, vJ, vJ, AV.ows 1, vJ, vI (IntKind.i64.wrap (i + 1)), vJ, vJ, vJ, vJ, vJ, vJ, vJ, vJ, vJ, vJ, vJ, vJ, vJ, vJ, vJ, vJ, vJ, vJ, vJ, vJ, vJ, vJ, vJ, vJ, vJ, vJ, vJ, vJ, vJ, vJ, vJ, vJ, vJ, vJ, vJ, vJ, vJ, vJ, vJ, vJ, vJ, vJ, vJ, vJ, vJ, vJ, vJ, vJ, vJ, vJ, vJ], ob := [(0, AO.box [vI x, AV.rsl kc s, AV.rsl k3 d, AV.rsl k3 p, vB b, AV.rsl ki f, vI n]), (1, AO.row ki (addI ys (s.getD i.toNat (edflt kc)).snd.snd.snd.snd.snd.snd.snd.snd.snd.snd.snd.snd.snd.snd.snd.snd.snd.snd.snd.snd.snd.snd.snd.snd.snd.snd.snd.fst))], nx := 1000000, ps := [] }) False) False) (LOOP53 L R 11 { tm := [vJ, vJ, AV.ptr 0 0, vJ, vJ, AV.ows 1, vJ, vJ, vI 0, vJ, vJ, vJ, vJ, vJ, vJ, vJ, vJ, vJ, vJ, vJ, vJ, vJ, vJ, vJ, vJ, vJ, vJ, vJ, vJ, vJ, vJ, vJ, vJ, vJ, vJ, vJ, vJ, vJ, vJ, vJ, vJ, vJ, vJ, vJ, vJ, vJ, vJ, vJ, vJ, vJ, vJ, vJ, vJ, vJ, vJ, vJ, vJ, vJ, vJ], ob := [(0, AO.box [vI x, AV.rsl kc s, AV.rsl k3 d, AV.rsl k3 p, vB b, AV.rsl ki f, vI n]), (1, AO.row ki ys)], nx := 1000000, ps := [] })) := by kernel_rfl
def sc53 (x : Int) (s : List (Elem kc)) (d p : List (Elem k3)) (b : Bool) (f : List (Elem ki)) (n m : Int) (i : Int) (ys : List (Elem ki)) : St :=  ⟨[vJ, vJ, AV.ptr 0 0, vJ, vJ, AV.ows 1, vJ, vJ, .val (.int .i64 i), vJ, vJ, vJ, vJ, vJ, vJ, vJ, vJ, vJ, vJ, vJ, vJ, vJ, vJ, vJ, vJ, vJ, vJ, vJ, vJ, vJ, vJ, vJ, vJ, vJ, vJ, vJ, vJ, vJ, vJ, vJ, vJ, vJ, vJ, vJ, vJ, vJ, vJ, vJ, vJ, vJ, vJ, vJ, vJ, vJ, vJ, vJ, vJ, vJ, vJ], [(0, AO.box [vI x, AV.rsl kc s, AV.rsl k3 d, AV.rsl k3 p, vB b, AV.rsl ki f, vI n]), (1, .row ki ys)], 1000000, []⟩
theorem bc53 (L : Lp) (R : Option Res → Prop) (N : St → Prop) (x : Int) (s : List (Elem kc)) (d p : List (Elem k3)) (b : Bool) (f : List (Elem ki)) (n m : Int) (i : Int) (ys : List (Elem ki)) : (evP E53 G53 L (lp53 11) (sc53 x s d p b f n m i ys) (rk53 L R 11 N)) = (
    br (decide (i < (↑p.length : Int))) (br (decide (0 ≤ i ∧ i < (↑p.length : Int))) (br (decide (ys.length ≤ 1048576)) (N { tm := [vJ, vJ, AV.ptr 0 0, vJ, vJ, AV.ows 1, vJ, vJ, vI (IntKind.i64.wrap (i + 1)), vJ, vJ, vJ, vJ, vJ, vJ, vJ, vJ, vJ, vJ, vJ, vJ, vJ, vJ, vJ, vJ, vJ, vJ, vJ, vJ, vJ, vJ, vJ, vJ, vJ, vJ, vJ, vJ, vJ, vJ, vJ, vJ, vJ, vJ, vJ, vJ, vJ, vJ, vJ, vJ, vJ, vJ, vJ, vJ, vJ, vJ, vJ, vJ, vJ, vJ], ob := [(0, AO.box [vI x, AV.rsl kc s, AV.rsl k3 d, AV.rsl k3 p, vB b, AV.rsl ki f, vI n]), (1, AO.row ki (addI ys (p.getD i.toNat (edflt k3)).fst))], nx := 1000000, ps := [] }) False) False) (R (some { av := AV.ows 0, obs := [AO.row ki ys], outs := [] }))) := by kernel_rfl
theorem h53 : G1Ok Tryz.prog 53 g53 := by
  intro args obs k h
  unfold g53 at h
  split at h
  · rename_i k us m
    split at h
    rotate_left
    · exact h.elim
    rename_i c hc
    obtain rfl := coreOf_inv hc
    obtain ⟨x, s, d, p, b, f, n⟩ := c
    obtain ⟨hl, h⟩ := brd h
    have hl : s.length + d.length + p.length ≤ 1000 := hl
    refine ⟨_, ctr_fn ok2 hg53 Tryz.func53 (by kernel_rfl) (by kernel_rfl) (by kernel_rfl) fun C => ?_, h⟩
    show bodyP E2 G53 _ Tryz.f53 [coreAV x s d p b f n, .val (.int .i64 m)] [] _
    rw [e53]
    refine loopUp okf53 hg53 (fun i ys => sa53 x s d p b f n m i ys) d.length (fun i ys => ys = (d.take i).foldl (fun o e => addI o e.2.1) (addI [] m)) (fun N i ys hi hy next => ?_) _ rfl
    show evP E53 G53 _ (lp53 3) (sa53 x s d p b f n m i ys) (rk53 _ _ 3 _)
    have y1 := fold_len (fun e : Elem k3 => (e.2.1 : Int)) (d.take i) (addI [] m)
    have y0 := addI_len [] m
    rw [← hy, List.length_take] at y1
    simp only [List.length_nil] at y0
    rw [ba53, Int.toNat_natCast, wrap_id (n := (i : Int) + 1) (by omega) (by omega)]
    refine br_dec (fun h2 => br_yes ⟨by omega, h2⟩ (br_yes (by omega) (next (by omega) _ ?_))) (fun h2 => ?_)
    · rw [fold_next (fun e : Elem k3 => (e.2.1 : Int)) d (edflt k3) _ (by omega), ← hy]
    have hi' : i = d.length := by omega
    rw [hi', List.take_length] at hy
    refine loopUp okf53 hg53 (fun i ys => sb53 x s d p b f n m i ys) s.length (fun i zs => zs = (s.take i).foldl (fun o e => addI o (hom e).1) ys) (fun N i zs hi hz next => ?_) _ rfl
    show evP E53 G53 _ (lp53 7) (sb53 x s d p b f n m i zs) (rk53 _ _ 7 _)
    have y2 := fold_len (fun e : Elem kc => ((hom e).1 : Int)) (s.take i) ys
    rw [← hz, List.length_take] at y2
    rw [bb53, Int.toNat_natCast, wrap_id (n := (i : Int) + 1) (by omega) (by omega)]
    refine br_dec (fun h2 => br_yes ⟨by omega, h2⟩ (br_yes (by omega) (next (by omega) _ ?_))) (fun h2 => ?_)
    · rw [fold_next (fun e : Elem kc => ((hom e).1 : Int)) s (edflt kc) _ (by omega), ← hz]
      rfl
    have hi' : i = s.length := by omega
    rw [hi', List.take_length] at hz
    refine loopUp okf53 hg53 (fun i ys => sc53 x s d p b f n m i ys) p.length (fun i qs => qs = (p.take i).foldl (fun o e => addI o e.1) zs) (fun N i qs hi hq next => ?_) _ rfl
    show evP E53 G53 _ (lp53 11) (sc53 x s d p b f n m i qs) (rk53 _ _ 11 _)
    have y3 := fold_len (fun e : Elem k3 => (e.1 : Int)) (p.take i) zs
    rw [← hq, List.length_take] at y3
    rw [bc53, Int.toNat_natCast, wrap_id (n := (i : Int) + 1) (by omega) (by omega)]
    refine br_dec (fun h2 => br_yes ⟨by omega, h2⟩ (br_yes (by omega) (next (by omega) _ ?_))) (fun h2 => ?_)
    · rw [fold_next (fun e : Elem k3 => (e.1 : Int)) p (edflt k3) _ (by omega), ← hq]
    have hi' : i = p.length := by omega
    rw [hi', List.take_length] at hq
    show _ = some (⟨.ows 0, [.row [.int .i64] (rchS (x, s, d, p, b, f, n) m)], []⟩ : Res)
    rw [hq, hz, hy]
    rfl
  · exact h.elim
noncomputable def E12 : Env := E2.of Tryz.f12
noncomputable def G12 : Gk := gk [(39, g39), (53, g53)]
noncomputable def lp12 (n : Nat) : Code := (loopOf n (codeOf Tryz.f12)).getD .skip
noncomputable def ct12 (L : Lp) (R : Option Res → Prop) (n : Nat) : Kt := contOf E12 G12 L n (codeOf Tryz.f12) (endK E12 Tryz.f12.results.toList R)
noncomputable def rk12 (L : Lp) (R : Option Res → Prop) (n : Nat) (N : St → Prop) : Kt := rk (jof E12 (lp12 n)) N (ct12 L R n)
noncomputable def rkn12 (L : Lp) (R : Option Res → Prop) (n : Nat) (N : St → Prop) (m : Nat) (N2 : St → Prop) : Kt := rk (jof E12 (lp12 m)) N2 (contOf E12 G12 L m (lp12 n) (rk12 L R n N))
noncomputable def LOOPN12 (L : Lp) (R : Option Res → Prop) (n : Nat) (N : St → Prop) (m : Nat) (st : St) : Prop := L (lp12 m) st (contOf E12 G12 L m (lp12 n) (rk12 L R n N))
noncomputable def LOOP12 (L : Lp) (R : Option Res → Prop) (n : Nat) (st : St) : Prop := L (lp12 n) st (ct12 L R n)
theorem hg12 : HG Tryz.prog G12 := (hg_cons h39 (hg_cons h53 hg_nil))
theorem okf12 : Ok Tryz.prog E12 := ok2.of Tryz.f12
theorem e12 (L : Lp) (R : Option Res → Prop) (x : Int) (s : List (Elem kc)) (d p : List (Elem k3)) (b : Bool) (f : List (Elem ki)) (n m : Int) : (bodyP E2 G12 L Tryz.f12 [coreAV x s d p b f n, .val (.int .i64 m)] [] R) = (
    br (smB' (x, s, d, p, b, f, n)) (br (!coreOk (x, s, d, p, b, f, n).fst (x, s, d, p, b, f, n).snd.fst (x, s, d, p, b, f, n).snd.snd.fst (x, s, d, p, b, f, n).snd.snd.snd.fst (x, s, d, p, b, f, n).snd.snd.snd.snd.snd.fst (x, s, d, p, b, f, n).snd.snd.snd.snd.snd.snd) (R (some { av := AV.ows 0, obs := [AO.row ki []], outs := [] })) (br (decide ((x, s, d, p, b, f, n).snd.fst.length + (x, s, d, p, b, f, n).snd.snd.fst.length + (x, s, d, p, b, f, n).snd.snd.snd.fst.length ≤ 1000)) (R (some { av := AV.ows 0, obs := [AO.row ki (rchS (x, s, d, p, b, f, n) m)], outs := [] })) False)) False) := by kernel_rfl
theorem rch_f {c : Co} {m : Int} (h : coreOk c.1 c.2.1 c.2.2.1 c.2.2.2.1 c.2.2.2.2.2.1 c.2.2.2.2.2.2 = false) : rch c m = [] := by unfold rch; rw [h]
theorem rch_t {x : Int} {s : List (Elem kc)} {d p : List (Elem k3)} {b : Bool} {f : List (Elem ki)} {n m : Int} (h : coreOk x s d p f n = true) : rch (x, s, d, p, b, f, n) m = rchS (x, s, d, p, b, f, n) m := by unfold rch; rw [show coreOk (x, s, d, p, b, f, n).1 (x, s, d, p, b, f, n).2.1 (x, s, d, p, b, f, n).2.2.1 (x, s, d, p, b, f, n).2.2.2.1 (x, s, d, p, b, f, n).2.2.2.2.2.1 (x, s, d, p, b, f, n).2.2.2.2.2.2 = true from h]
theorem cok_lens {x : Int} {s : List (Elem kc)} {d p : List (Elem k3)} {f : List (Elem ki)} {n : Int} (h : coreOk x s d p f n = true) : s.length + d.length + p.length ≤ 1000 := by
  have hd := ddt_len (cok_plc h).1
  unfold coreOk at h
  simp only [Bool.and_eq_true, decide_eq_true_eq] at h
  have hp := h.2.2.1
  have hb := h.2.2.2.2.2.2.2.1
  unfold bookOk at hb
  simp only [Bool.and_eq_true, decide_eq_true_eq] at hb
  have hs : ((bkS s).length : Int) ≤ 6 := by first | exact hb.1 | exact hb.1.1
  have hs2 : (bkS s).length = s.length := by unfold bkS; rw [List.length_map]
  omega
theorem h12 : G1Ok Tryz.prog 12 g12 := by
  intro args obs k h
  unfold g12 at h
  split at h
  · rename_i k us m
    split at h
    rotate_left
    · exact h.elim
    rename_i c hc
    obtain rfl := coreOf_inv hc
    obtain ⟨x, s, d, p, b, f, n⟩ := c
    obtain ⟨hp, h⟩ := br_and h
    refine ⟨_, ctr_fn ok2 hg12 Tryz.func12 (by kernel_rfl) (by kernel_rfl) (by kernel_rfl) fun C => ?_, h⟩
    show bodyP E2 G12 _ Tryz.f12 [coreAV x s d p b f n, .val (.int .i64 m)] [] _
    rw [e12]
    refine br_t hp (br_not (fun h1 => ?_) (fun h1 => br_yes (cok_lens h1) ?_))
    · show _ = _
      rw [rch_f (c := (x, s, d, p, b, f, n)) h1]
    · show _ = some (⟨.ows 0, [.row [.int .i64] (rch (x, s, d, p, b, f, n) m)], []⟩ : Res)
      rw [rch_t h1]
  · exact h.elim
noncomputable def E14 : Env := E2.of Tryz.f14
noncomputable def G14 : Gk := gk [(58, g39), (59, g59), (61, g61), (62, g62)]
noncomputable def lp14 (n : Nat) : Code := (loopOf n (codeOf Tryz.f14)).getD .skip
noncomputable def ct14 (L : Lp) (R : Option Res → Prop) (n : Nat) : Kt := contOf E14 G14 L n (codeOf Tryz.f14) (endK E14 Tryz.f14.results.toList R)
noncomputable def rk14 (L : Lp) (R : Option Res → Prop) (n : Nat) (N : St → Prop) : Kt := rk (jof E14 (lp14 n)) N (ct14 L R n)
noncomputable def rkn14 (L : Lp) (R : Option Res → Prop) (n : Nat) (N : St → Prop) (m : Nat) (N2 : St → Prop) : Kt := rk (jof E14 (lp14 m)) N2 (contOf E14 G14 L m (lp14 n) (rk14 L R n N))
noncomputable def LOOPN14 (L : Lp) (R : Option Res → Prop) (n : Nat) (N : St → Prop) (m : Nat) (st : St) : Prop := L (lp14 m) st (contOf E14 G14 L m (lp14 n) (rk14 L R n N))
noncomputable def LOOP14 (L : Lp) (R : Option Res → Prop) (n : Nat) (st : St) : Prop := L (lp14 n) st (ct14 L R n)
theorem hg14 : HG Tryz.prog G14 := (hg_cons h58 (hg_cons h59 (hg_cons h61 (hg_cons h62 hg_nil))))
theorem okf14 : Ok Tryz.prog E14 := ok2.of Tryz.f14
theorem e14 (L : Lp) (R : Option Res → Prop) (x : Int) (s : List (Elem kc)) (d p : List (Elem k3)) (b : Bool) (f : List (Elem ki)) (n m : Int) : (bodyP E2 G14 L Tryz.f14 [coreAV x s d p b f n, .val (.int .i64 m)] [] R) = (
    br (smB' (x, s, d, p, b, f, n)) (br (!coreOk (x, s, d, p, b, f, n).fst (x, s, d, p, b, f, n).snd.fst (x, s, d, p, b, f, n).snd.snd.fst (x, s, d, p, b, f, n).snd.snd.snd.fst (x, s, d, p, b, f, n).snd.snd.snd.snd.snd.fst (x, s, d, p, b, f, n).snd.snd.snd.snd.snd.snd) (R (some { av := AV.ows 0, obs := [AO.row ki []], outs := [] })) (LOOP14 L R 5 { tm := [vJ, vJ, AV.ptr 0 0, vJ, vJ, AV.ows 1, vJ, vJ, vJ, vJ, vJ, vJ, vJ, vJ, vJ, vJ, vJ, vJ, AV.rsl k3 d, vI (↑d.length : Int), vI 0, vJ, vJ, vJ, vJ, vJ, vJ, vJ, vJ, vJ, vJ, vJ, vJ, vJ, vJ, vJ, vJ, vJ, vJ, vJ, vJ, vJ, vJ, vJ, vJ, vJ, vJ, vJ, vJ, vJ, vJ, vJ, vJ, vJ, vJ, vJ, vJ, vJ, vJ, vJ, vJ, vJ, vJ], ob := [(0, AO.box [vI x, AV.rsl kc s, AV.rsl k3 d, AV.rsl k3 p, vB b, AV.rsl ki f, vI n]), (1, AO.row ki [(m, ())])], nx := 1000000, ps := [] })) False) := by kernel_rfl
def sa14 (x : Int) (s : List (Elem kc)) (d p : List (Elem k3)) (b : Bool) (f : List (Elem ki)) (n m : Int) (i : Int) (ys : List (Elem ki)) : St :=  ⟨[vJ, vJ, AV.ptr 0 0, vJ, vJ, AV.ows 1, vJ, vJ, vJ, vJ, vJ, vJ, vJ, vJ, vJ, vJ, vJ, vJ, AV.rsl k3 d, vI (↑d.length : Int), .val (.int .i64 i), vJ, vJ, vJ, vJ, vJ, vJ, vJ, vJ, vJ, vJ, vJ, vJ, vJ, vJ, vJ, vJ, vJ, vJ, vJ, vJ, vJ, vJ, vJ, vJ, vJ, vJ, vJ, vJ, vJ, vJ, vJ, vJ, vJ, vJ, vJ, vJ, vJ, vJ, vJ, vJ, vJ, vJ], [(0, AO.box [vI x, AV.rsl kc s, AV.rsl k3 d, AV.rsl k3 p, vB b, AV.rsl ki f, vI n]), (1, .row ki ys)], 1000000, []⟩
theorem ba14 (L : Lp) (R : Option Res → Prop) (N : St → Prop) (x : Int) (s : List (Elem kc)) (d p : List (Elem k3)) (b : Bool) (f : List (Elem ki)) (n m : Int) (i : Int) (ys : List (Elem ki)) : (evP E14 G14 L (lp14 5) (sa14 x s d p b f n m i ys) (rk14 L R 5 N)) = (
    br (decide (i < (↑d.length : Int))) (br (decide (0 ≤ i ∧ i < (↑d.length : Int))) (br (decide ((ys.length + [((d.getD i.toNat (edflt k3)).snd.fst, ())].length) * 8 ≤ 140737488355328)) (N { tm := [vJ, vJ, AV.ptr 0 0, vJ, vJ, AV.ows 1, vJ, vJ, vJ, vJ, vJ, vJ, vJ, vJ, vJ, vJ, vJ, vJ, AV.rsl k3 d, vI (↑d.length : Int), vI (IntKind.i64.wrap (i + 1)), vJ, vJ, vJ, vJ, vJ, vJ, vJ, vJ, vJ, vJ, vJ, vJ, vJ, vJ, vJ, vJ, vJ, vJ, vJ, vJ, vJ, vJ, vJ, vJ, vJ, vJ, vJ, vJ, vJ, vJ, vJ, vJ, vJ, vJ, vJ, vJ, vJ, vJ, vJ, vJ, vJ, vJ], ob := [(0, AO.box [vI x, AV.rsl kc s, AV.rsl k3 d, AV.rsl k3 p, vB b, AV.rsl ki f, vI n]), (1, AO.row ki (ys ++ [((d.getD i.toNat (edflt k3)).snd.fst, ())]))], nx := 1000000, ps := [] }) False) False) (LOOP14 L R 10 { tm := [vJ, vJ, AV.ptr 0 0, vJ, vJ, AV.ows 1, vJ, vJ, vJ, vJ, vJ, vJ, vJ, vJ, vJ, vJ, vJ, vJ, vJ, vJ, vJ, vJ, vJ, vJ, vJ, vJ, vJ, vJ, vJ, vJ, vJ, AV.rsl kc s, vI (↑s.length : Int), vI 0, vJ, vJ, vJ, vJ, vJ, vJ, vJ, vJ, vJ, vJ, vJ, vJ, vJ, vJ, vJ, vJ, vJ, vJ, vJ, vJ, vJ, vJ, vJ, vJ, vJ, vJ, vJ, vJ, vJ], ob := [(0, AO.box [vI x, AV.rsl kc s, AV.rsl k3 d, AV.rsl k3 p, vB b, AV.rsl ki f, vI n]), (1, AO.row ki ys)], nx := 1000000, ps := [] })) := by kernel_rfl
def sb14 (x : Int) (s : List (Elem kc)) (d p : List (Elem k3)) (b : Bool) (f : List (Elem ki)) (n m : Int) (i : Int) (ys : List (Elem ki)) : St :=  ⟨[vJ, vJ, AV.ptr 0 0, vJ, vJ, AV.ows 1, vJ, vJ, vJ, vJ, vJ, vJ, vJ, vJ, vJ, vJ, vJ, vJ, vJ, vJ, vJ, vJ, vJ, vJ, vJ, vJ, vJ, vJ, vJ, vJ, vJ, AV.rsl kc s, vI (↑s.length : Int), .val (.int .i64 i), vJ, vJ, vJ, vJ, vJ, vJ, vJ, vJ, vJ, vJ, vJ, vJ, vJ, vJ, vJ, vJ, vJ, vJ, vJ, vJ, vJ, vJ, vJ, vJ, vJ, vJ, vJ, vJ, vJ], [(0, AO.box [vI x, AV.rsl kc s, AV.rsl k3 d, AV.rsl k3 p, vB b, AV.rsl ki f, vI n]), (1, .row ki ys)], 1000000, []⟩
theorem bb14 (L : Lp) (R : Option Res → Prop) (N : St → Prop) (x : Int) (s : List (Elem kc)) (d p : List (Elem k3)) (b : Bool) (f : List (Elem ki)) (n m : Int) (i : Int) (ys : List (Elem ki)) : (evP E14 G14 L (lp14 10) (sb14 x s d p b f n m i ys) (rk14 L R 10 N)) = (
    br (decide (i < (↑s.length : Int))) (br (decide (0 ≤ i ∧ i < (↑s.length : Int))) (br (decide ((ys.length + [((s.getD i.toNat (edflt kc)).snd.snd.snd.snd.snd.snd.snd.snd.snd.snd.snd.snd.snd.snd.snd.snd.snd.snd.snd.snd.snd.snd.snd.snd.snd.snd.snd.fst, ())].length) * 8 ≤ 140737488355328)) (N { tm := [vJ, vJ, AV.ptr 0 0, vJ, vJ, AV.ows 1, vJ, vJ, vJ, vJ, vJ, vJ, vJ, vJ, vJ, vJ, vJ, vJ, vJ, vJ, vJ, vJ, vJ, vJ, vJ, vJ, vJ, vJ, vJ, vJ, vJ, AV.rsl kc s, vI (↑s.length : Int), vI (IntKind.i64.wrap (i + 1)), vJ, vJ, vJ, vJ, vJ, vJ, vJ, vJ, vJ, vJ, vJ, vJ, vJ, vJ, vJ, vJ, vJ, vJ, vJ, vJ, vJ, vJ, vJ, vJ, vJ, vJ, vJ, vJ, vJ], ob := [(0, AO.box [vI x, AV.rsl kc s, AV.rsl k3 d, AV.rsl k3 p, vB b, AV.rsl ki f, vI n]), (1, AO.row ki (ys ++ [((s.getD i.toNat (edflt kc)).snd.snd.snd.snd.snd.snd.snd.snd.snd.snd.snd.snd.snd.snd.snd.snd.snd.snd.snd.snd.snd.snd.snd.snd.snd.snd.snd.fst, ())]))], nx := 1000000, ps := [] }) False) False) (LOOP14 L R 15 { tm := [vJ, vJ, vJ, vJ, vJ, AV.ows 0, vJ, vJ, vJ, vJ, vJ, vJ, vJ, vJ, vJ, vJ, vJ, vJ, vJ, vJ, vJ, vJ, vJ, vJ, vJ, vJ, vJ, vJ, vJ, vJ, vJ, vJ, vJ, vJ, vJ, vJ, vJ, vJ, vJ, vJ, vJ, vJ, vJ, vJ, vJ, AV.rsl k3 p, vI (↑p.length : Int), vI 0, vJ, vJ, vJ, vJ, vJ, vJ, vJ, vJ, vJ, vJ, vJ, vJ, vJ, vJ, vJ], ob := [(0, AO.row ki ys)], nx := 1000000, ps := [] })) := by kernel_rfl
def sc14 (x : Int) (s : List (Elem kc)) (d p : List (Elem k3)) (b : Bool) (f : List (Elem ki)) (n m : Int) (i : Int) (ys : List (Elem ki)) : St :=  ⟨[vJ, vJ, vJ, vJ, vJ, AV.ows 0, vJ, vJ, vJ, vJ, vJ, vJ, vJ, vJ, vJ, vJ, vJ, vJ, vJ, vJ, vJ, vJ, vJ, vJ, vJ, vJ, vJ, vJ, vJ, vJ, vJ, vJ, vJ, vJ, vJ, vJ, vJ, vJ, vJ, vJ, vJ, vJ, vJ, vJ, vJ, AV.rsl k3 p, vI (↑p.length : Int), .val (.int .i64 i), vJ, vJ, vJ, vJ, vJ, vJ, vJ, vJ, vJ, vJ, vJ, vJ, vJ, vJ, vJ], [(0, .row ki ys)], 1000000, []⟩
theorem bc14 (L : Lp) (R : Option Res → Prop) (N : St → Prop) (x : Int) (s : List (Elem kc)) (d p : List (Elem k3)) (b : Bool) (f : List (Elem ki)) (n m : Int) (i : Int) (ys : List (Elem ki)) : (evP E14 G14 L (lp14 15) (sc14 x s d p b f n m i ys) (rk14 L R 15 N)) = (
    br (decide (i < (↑p.length : Int))) (br (decide (0 ≤ i ∧ i < (↑p.length : Int))) (br (decide ((ys.length + [((p.getD i.toNat (edflt k3)).fst, ())].length) * 8 ≤ 140737488355328)) (N { tm := [vJ, vJ, vJ, vJ, vJ, AV.ows 0, vJ, vJ, vJ, vJ, vJ, vJ, vJ, vJ, vJ, vJ, vJ, vJ, vJ, vJ, vJ, vJ, vJ, vJ, vJ, vJ, vJ, vJ, vJ, vJ, vJ, vJ, vJ, vJ, vJ, vJ, vJ, vJ, vJ, vJ, vJ, vJ, vJ, vJ, vJ, AV.rsl k3 p, vI (↑p.length : Int), vI (IntKind.i64.wrap (i + 1)), vJ, vJ, vJ, vJ, vJ, vJ, vJ, vJ, vJ, vJ, vJ, vJ, vJ, vJ, vJ], ob := [(0, AO.row ki (ys ++ [((p.getD i.toNat (edflt k3)).fst, ())]))], nx := 1000000, ps := [] }) False) False) (br (decide (ys.length ≤ 1048576)) (br (decide ((List.filter (fun e => !decide (e.fst < 13)) ys).length ≤ 1048576)) (br (decide ((srI (List.filter (fun e => !decide (e.fst < 13)) ys)).length ≤ 1048576)) (R (some { av := AV.ows 0, obs := [AO.row ki (cpI (srI (List.filter (fun e => !decide (e.fst < 13)) ys)))], outs := [] })) False) False) False)) := by kernel_rfl
theorem h14 : G1Ok Tryz.prog 14 g12 := by
  intro args obs k h
  unfold g12 at h
  split at h
  · rename_i k us m
    split at h
    rotate_left
    · exact h.elim
    rename_i c hc
    obtain rfl := coreOf_inv hc
    obtain ⟨x, s, d, p, b, f, n⟩ := c
    obtain ⟨hp, h⟩ := br_and h
    refine ⟨_, ctr_fn ok2 hg14 Tryz.func14 (by kernel_rfl) (by kernel_rfl) (by kernel_rfl) fun C => ?_, h⟩
    show bodyP E2 G14 _ Tryz.f14 [coreAV x s d p b f n, .val (.int .i64 m)] [] _
    rw [e14]
    refine br_t hp (br_not (fun h1 => ?_) (fun h1 => ?_))
    · show _ = _
      rw [rch_f (c := (x, s, d, p, b, f, n)) h1]
    have hl : s.length + d.length + p.length ≤ 1000 := cok_lens h1
    have h1 : coreOk x s d p f n = true := h1
    refine loopUp okf14 hg14 (fun i ys => sa14 x s d p b f n m i ys) d.length (fun i ys => ys = [(m, ())] ++ (d.take i).map fun e => (e.2.1, ())) (fun N i ys hi hy next => ?_) _ rfl
    show evP E14 G14 _ (lp14 5) (sa14 x s d p b f n m i ys) (rk14 _ _ 5 _)
    have y1 : ys.length = 1 + i := by rw [hy, List.length_append, List.length_map, List.length_take]; show 1 + _ = _; omega
    rw [ba14, Int.toNat_natCast, wrap_id (n := (i : Int) + 1) (by omega) (by omega)]
    refine br_dec (fun h2 => br_yes ⟨by omega, h2⟩ (br_yes (by show (ys.length + 1) * 8 ≤ _; omega) (next (by omega) _ ?_))) (fun h2 => ?_)
    · rw [take_next d (edflt k3) (by omega), List.map_append, hy, List.append_assoc]
      rfl
    have hi' : i = d.length := by omega
    rw [hi', List.take_length] at hy
    refine loopUp okf14 hg14 (fun i ys => sb14 x s d p b f n m i ys) s.length (fun i zs => zs = ys ++ (s.take i).map fun e => ((hom e).1, ())) (fun N i zs hi hz next => ?_) ys (by simp)
    show evP E14 G14 _ (lp14 10) (sb14 x s d p b f n m i zs) (rk14 _ _ 10 _)
    have y2 : zs.length = ys.length + i := by rw [hz, List.length_append, List.length_map, List.length_take]; omega
    rw [bb14, Int.toNat_natCast, wrap_id (n := (i : Int) + 1) (by omega) (by omega)]
    refine br_dec (fun h2 => br_yes ⟨by omega, h2⟩ (br_yes (by show (zs.length + 1) * 8 ≤ _; omega) (next (by omega) _ ?_))) (fun h2 => ?_)
    · rw [take_next s (edflt kc) (by omega), List.map_append, hz, List.append_assoc]
      rfl
    have hi' : i = s.length := by omega
    rw [hi', List.take_length] at hz
    refine loopUp okf14 hg14 (fun i ys => sc14 x s d p b f n m i ys) p.length (fun i qs => qs = zs ++ (p.take i).map fun e => (e.1, ())) (fun N i qs hi hq next => ?_) zs (by simp)
    show evP E14 G14 _ (lp14 15) (sc14 x s d p b f n m i qs) (rk14 _ _ 15 _)
    have y3 : qs.length = zs.length + i := by rw [hq, List.length_append, List.length_map, List.length_take]; omega
    rw [bc14, Int.toNat_natCast, wrap_id (n := (i : Int) + 1) (by omega) (by omega)]
    refine br_dec (fun h2 => br_yes ⟨by omega, h2⟩ (br_yes (by show (qs.length + 1) * 8 ≤ _; omega) (next (by omega) _ ?_))) (fun h2 => ?_)
    · rw [take_next p (edflt k3) (by omega), List.map_append, hq, List.append_assoc]
      rfl
    have hi' : i = p.length := by omega
    rw [hi', List.take_length] at hq
    have ha : qs = ats s d p m := by rw [hq, hz, hy]; rfl
    have f1 := List.length_filter_le kpI qs
    have f2 : (srI (qs.filter kpI)).length = (qs.filter kpI).length := by unfold srI; simp
    refine br_yes (by omega) (br_yes (by show (qs.filter kpI).length ≤ _; omega) (br_yes (by show (srI (qs.filter kpI)).length ≤ _; omega) ?_))
    show _ = some (⟨.ows 0, [.row [.int .i64] (rch (x, s, d, p, b, f, n) m)], []⟩ : Res)
    rw [rch_t h1, ← rch_eq x s d p b f n m, ← ha]
  · exact h.elim
noncomputable def E3 : Env := Eg.of Tryz.f3
noncomputable def G3 : Gk := gk [(11, g11), (13, g13), (12, g12), (14, g12), (15, g15), (16, g16), (17, g17), (18, g18), (19, g19)]
noncomputable def lp3 (n : Nat) : Code := (loopOf n (codeOf Tryz.f3)).getD .skip
noncomputable def ct3 (L : Lp) (R : Option Res → Prop) (n : Nat) : Kt := contOf E3 G3 L n (codeOf Tryz.f3) (endK E3 Tryz.f3.results.toList R)
noncomputable def rk3 (L : Lp) (R : Option Res → Prop) (n : Nat) (N : St → Prop) : Kt := rk (jof E3 (lp3 n)) N (ct3 L R n)
noncomputable def rkn3 (L : Lp) (R : Option Res → Prop) (n : Nat) (N : St → Prop) (m : Nat) (N2 : St → Prop) : Kt := rk (jof E3 (lp3 m)) N2 (contOf E3 G3 L m (lp3 n) (rk3 L R n N))
noncomputable def LOOPN3 (L : Lp) (R : Option Res → Prop) (n : Nat) (N : St → Prop) (m : Nat) (st : St) : Prop := L (lp3 m) st (contOf E3 G3 L m (lp3 n) (rk3 L R n N))
noncomputable def LOOP3 (L : Lp) (R : Option Res → Prop) (n : Nat) (st : St) : Prop := L (lp3 n) st (ct3 L R n)
theorem hg3 : HG Tryz.prog G3 := (hg_cons h11 (hg_cons h13 (hg_cons h12 (hg_cons h14 (hg_cons h15 (hg_cons h16 (hg_cons h17 (hg_cons h18 (hg_cons h19 hg_nil)))))))))
theorem okf3 : Ok Tryz.prog E3 := okg.of Tryz.f3
theorem e3 (L : Lp) (R : Option Res → Prop) (x : Int) (s : List (Elem kc)) (d p : List (Elem k3)) (b : Bool) (f : List (Elem ki)) (n m : Int) : (bodyP Eg G3 L Tryz.f3 [coreAV x s d p b f n, .val (.int .i64 m)] [] R) = (
    br (inCo (x, s, d, p, b, f, n) && true) (br (decide (szR 1048576 (szCo (x, s, d, p, b, f, n)) < 0)) (R (some { av := vB true, obs := [], outs := [] })) (br (smCo (x, s, d, p, b, f, n)) (br (smB' (x, s, d, p, b, f, n)) (br (smCo (x, s, d, p, b, f, n)) (br (smB' (x, s, d, p, b, f, n)) (br (decide ((rch (x, s, d, p, b, f, n) m).length ≤ 1048576)) (br (!eqR ki (rch (x, s, d, p, b, f, n) m) (rch (x, s, d, p, b, f, n) m)) (R (some { av := vB false, obs := [], outs := [] })) (br (smCo (x, s, d, p, b, f, n)) (br (smCo (x, s, d, p, b, f, n)) (br (!eqCo (x, s, d, p, b, f, n) (x, s, d, p, b, f, n)) (R (some { av := vB false, obs := [], outs := [] })) (br (inC4 1 (x, s, d, p, b, f, n).snd.fst.length (x, s, d, p, b, f, n).snd.snd.fst.length (x, s, d, p, b, f, n).snd.snd.snd.fst.length (x, s, d, p, b, f, n).snd.snd.snd.snd.snd.fst.length) (br (decide ((rch (x, s, d, p, b, f, n) m).length ≤ 1048576)) (br (!eqR ki (rch (x, s, d, p, b, f, n) m) (rch (x, s, d, p, b, f, n) m)) (R (some { av := vB false, obs := [], outs := [] })) (br (inM 1 (rch (x, s, d, p, b, f, n) m).length) (br (inM 1 (mkS mkI 1 1 (rch (x, s, d, p, b, f, n) m).length).length) (br (decide (hdR (hdB ki mkI 1 1 (mkS mkI 1 1 (rch (x, s, d, p, b, f, n) m).length)) (1 + (↑(1 * (mkS mkI 1 1 (rch (x, s, d, p, b, f, n) m).length).length) : Int)) < 0)) (R (some { av := vB false, obs := [], outs := [] })) (br (hdR (hdB ki mkI 1 1 (mkS mkI 1 1 (rch (x, s, d, p, b, f, n) m).length)) (1 + (↑(1 * (mkS mkI 1 1 (rch (x, s, d, p, b, f, n) m).length).length) : Int)) != 1 + (↑(1 * (rch (x, s, d, p, b, f, n) m).length) : Int)) (R (some { av := vB false, obs := [], outs := [] })) (br (smCo (x, s, d, p, b, f, n)) (br (smB' (x, s, d, p, b, f, n)) (br (decide ((rch (x, s, d, p, b, f, n) m).length ≤ 1048576)) (br (!eqR ki (rch (x, s, d, p, b, f, n) m) (rch (x, s, d, p, b, f, n) m)) (R (some { av := vB false, obs := [], outs := [] })) (br (inM 1 (mkS mkI 1 1 (rch (x, s, d, p, b, f, n) m).length).length) (br (decide (hdR (hdB ki mkI 1 1 (mkS mkI 1 1 (rch (x, s, d, p, b, f, n) m).length)) (1 + (↑(1 * (mkS mkI 1 1 (rch (x, s, d, p, b, f, n) m).length).length) : Int)) < 0)) (R (some { av := vB false, obs := [], outs := [] })) (br (hdR (hdB ki mkI 1 1 (mkS mkI 1 1 (rch (x, s, d, p, b, f, n) m).length)) (1 + (↑(1 * (mkS mkI 1 1 (rch (x, s, d, p, b, f, n) m).length).length) : Int)) != 1 + (↑(1 * (rch (x, s, d, p, b, f, n) m).length) : Int)) (R (some { av := vB false, obs := [], outs := [] })) (R (some { av := vB true, obs := [], outs := [] })))) False)) False) False) False))) False) False)) False) False)) False) False)) False) False) False) False) False)) False) := by kernel_rfl
theorem rch_len (x : Int) (s : List (Elem kc)) (d p : List (Elem k3)) (b : Bool) (f : List (Elem ki)) (n m : Int) : (rch (x, s, d, p, b, f, n) m).length ≤ 1048576 := by
  cases h : coreOk x s d p f n with
  | false => rw [rch_f (c := (x, s, d, p, b, f, n)) h]; exact Nat.zero_le _
  | true =>
    have hl := cok_lens h
    rw [rch_t h]
    have h0 := addI_len [] m
    have h1 := fold_len (fun e : Elem k3 => (e.2.1 : Int)) d (addI [] m)
    have h2 := fold_len (fun e : Elem kc => ((hom e).1 : Int)) s (d.foldl (fun o e => addI o e.2.1) (addI [] m))
    have h3 := fold_len (fun e : Elem k3 => (e.1 : Int)) p (s.foldl (fun o e => addI o (hom e).1) (d.foldl (fun o e => addI o e.2.1) (addI [] m)))
    simp only [List.length_nil] at h0
    show (p.foldl (fun o e => addI o e.1) (s.foldl (fun o e => addI o (hom e).1) (d.foldl (fun o e => addI o e.2.1) (addI [] m)))).length ≤ _
    omega
theorem c3 (x : Int) (s : List (Elem kc)) (d p : List (Elem k3)) (b : Bool) (f : List (Elem ki)) (n m : Int) (h : coOk x s d p b f n) : Ctr Tryz.prog 3 [coreAV x s d p b f n, .val (.int .i64 m)] [] ⟨.val (.bool true), [], []⟩ := by
  refine ctr_fn okg hg3 Tryz.func3 (by kernel_rfl) (by kernel_rfl) (by kernel_rfl) fun C => ?_
  rw [e3, inCo_of h]
  refine br_t rfl (br_dec (fun _ => rfl) (fun h1 => ?_))
  have hs := smCo_of (Int.le_refl _) h1
  have hb := smB'_of (Int.le_refl _) h1
  have hl := rch_len x s d p b f n m
  rw [hs, hb, eqCo_self, eqR_self, mkS_len, hdB_mk, inM_of hl, inC4_of (smCo_s hs) (smCo_d hs) (smCo_p hs) (smCo_f hs)]
  exact br_t rfl (br_t rfl (br_t rfl (br_t rfl (br_yes hl (br_f rfl (br_t rfl (br_t rfl (br_f rfl (br_t rfl (br_yes hl (br_f rfl (br_t rfl (br_t rfl (br_no hd_ge (br_f hd_ne (br_t rfl (br_t rfl (br_yes hl (br_f rfl (br_t rfl (br_no hd_ge (br_f hd_ne rfl))))))))))))))))))))))
end Go.Proofs.YtkjnijddbiconaaGreatDoor.Ev
