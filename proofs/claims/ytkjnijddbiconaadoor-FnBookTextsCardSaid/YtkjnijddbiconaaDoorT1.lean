/- The law of BookTexts: the walks. -/
import Derived.Test.YtkjnijddbiconaaDoorT0
import Derived.Sort.EncStr
namespace Go.Proofs.YtkjnijddbiconaaDoor.Ev
open Go Go.Sort
set_option linter.unusedVariables false
set_option linter.unusedSimpArgs false
set_option maxRecDepth 100000
set_option maxHeartbeats 1000000
theorem flat_enc (xs : List (Elem ks)) : flat ks xs = (vlS xs).map encStr := by
  induction xs with
  | nil => rfl
  | cons e xs ih =>
    show vals ks e ++ flat ks xs = _
    rw [ih]
    rfl
theorem quiet_eq {w w' : World} (h : w' = w) : Quiet w w' := by
  subst h
  exact Quiet.refl _
theorem h39 : G1Ok Tryd.prog 39 g39 := by
  intro args obs k h
  unfold g39 at h
  split at h
  · rename_i k xs
    obtain ⟨hl, h⟩ := brd h
    refine ⟨_, ctr_lturn (xs := xs) (ys := srS xs) Tryd.func39 (by kernel_rfl) (by kernel_rfl) (by unfold srS; simp [vlS_len]) (fun w b cap cur e ht hb h1 h2 h3 => ?_) (fun _ w x => (Tryd.slices_Sort_string_none x 0 w).mono fun e w' he => ⟨he.1, quiet_eq he.2⟩), h⟩
    have hz : (vlS xs).length = xs.length := vlS_len xs
    rw [flat_enc, List.length_map, hz] at h3
    have hsz : xs.length ≤ cur.size := Nat.le_trans h1 (Nat.le_trans (Nat.le_of_eq (Nat.mul_one cap).symm) h2)
    have hH := holds_of encStr (d := (vlS xs).toArray) hb (by simpa [vlS_len] using h3)
    have key := Tryd.slices_Sort_string b 0 cap (vlS xs) w hH (Array.getElem?_eq_some_iff.1 hb).1 (by omega)
    rw [hz] at key
    refine key.mono fun e' w' ⟨he, q, os, hw⟩ => ?_
    have hp := put_cells encStr ((vlS xs).mergeSort fun x y => decide (x ≤ y)).toArray cur (by simpa [vlS_len] using hsz)
    refine ⟨_, he, hp.1, hw ▸ alt_put encStr _ os hb, ?_⟩
    have hf : flat ks (srS xs) = ((vlS xs).mergeSort fun x y => decide (x ≤ y)).map encStr := by
      rw [flat_enc]
      unfold srS
      rw [vu]
    rw [hf]
    have := hp.2
    simpa using this
  · exact h.elim
theorem h41 : G1Ok Tryd.prog 41 g41 := by
  intro args obs k h
  unfold g41 at h
  split at h
  · rename_i k xs
    obtain ⟨hl, h⟩ := brd h
    refine ⟨_, ctr_lrow (xs := xs) (ys := cpS xs) Tryd.func41 (by kernel_rfl) (by kernel_rfl) (fun w b cap cur e ht hb h1 h2 h3 => ?_) (fun hx => ⟨by subst hx; rfl, fun w x => (Tryd.slices_Compact_string_empty x 0 w).mono fun e w' he => ⟨he.1, quiet_eq he.2⟩⟩), h⟩
    have hz : (vlS xs).length = xs.length := vlS_len xs
    rw [flat_enc, List.length_map, hz] at h3
    have h2' : cap ≤ cur.size := Nat.le_trans (Nat.le_of_eq (Nat.mul_one cap).symm) h2
    have hsz : xs.length ≤ cur.size := Nat.le_trans h1 h2'
    have hH := holds_of encStr (d := (vlS xs).toArray) hb (by simpa [vlS_len] using h3)
    have key := Tryd.slices_Compact_string b 0 cap (vlS xs) w hH (by omega) (by omega)
    rw [hz] at key
    have hcl := Lib.compact_length_le (vlS xs)
    rw [hz] at hcl
    have hyl : (cpS xs).length = (Lib.compact (vlS xs)).length := by unfold cpS; rw [List.length_map]
    refine key.mono fun e' w' ⟨he, q, hw⟩ => ?_
    have hds : (Lib.compact (vlS xs) ++ List.replicate (xs.length - (Lib.compact (vlS xs)).length) []).toArray.size = xs.length := by
      simp
      omega
    have hp := put_cells encStr (Lib.compact (vlS xs) ++ List.replicate (xs.length - (Lib.compact (vlS xs)).length) []).toArray cur (by rw [hds]; exact hsz)
    have ha := alt_put (n := q) encStr (Lib.compact (vlS xs) ++ List.replicate (xs.length - (Lib.compact (vlS xs)).length) []).toArray #[] hb
    rw [Sort.grow_empty, ← hw] at ha
    refine ⟨cap, _, by rw [hyl]; exact he, by omega, by rw [hp.1]; exact h2, ha, ?_⟩
    have hf : flat ks (cpS xs) = (Lib.compact (vlS xs)).map encStr := by
      rw [flat_enc]
      unfold cpS
      rw [vu]
    have h4 := hp.2
    rw [hds] at h4
    rw [hf, List.length_map]
    have h5 := congrArg (List.take (Lib.compact (vlS xs)).length) h4
    rw [List.take_take, Nat.min_eq_left hcl] at h5
    rw [h5]
    simp only [List.map_append]
    rw [List.take_append_of_le_length (by simp), List.take_of_length_le (by simp)]
  · exact h.elim
noncomputable def G40 : Gk := gk []
theorem hg40 : HG Tryd.prog G40 := hg_nil
theorem e40 (L : Lp) (R : Option Res → Prop) (xs : List (Elem ks)) : (bodyP E3 G40 L Tryd.f40 [.ows 0] [.row ks xs] R) = (
    br (decide ((0 : Int) ≤ 0 ∧ 0 ≤ (↑xs.length : Int) ∧ (↑xs.length : Int) ≤ (↑xs.length : Int) ∧ (↑xs.length : Int) ≤ (↑xs.length : Int))) (R (some { av := AV.osl 0 0 ((↑xs.length : Int) - 0).toNat, obs := [AO.row ks xs], outs := [none] })) False) := by kernel_rfl
theorem h40 : G1Ok Tryd.prog 40 g40 := by
  intro args obs k h
  unfold g40 at h
  split at h
  · rename_i k xs
    obtain ⟨hl, h⟩ := brd h
    refine ⟨_, ctr_take ok3 hg40 Tryd.func40 (by kernel_rfl) (by kernel_rfl) (by kernel_rfl) fun C => ?_, h⟩
    rw [e40]
    refine br_yes ⟨by omega, by omega, by omega, by omega⟩ (.inl ⟨xs.length, xs, [none], by rw [show ((xs.length : Int) - 0).toNat = xs.length from by omega], List.take_length⟩)
  · exact h.elim
noncomputable def E42 : Env := E3.of Tryd.f42
noncomputable def G42 : Gk := gk []
noncomputable def lp42 (n : Nat) : Code := (loopOf n (codeOf Tryd.f42)).getD .skip
noncomputable def ct42 (L : Lp) (R : Option Res → Prop) (n : Nat) : Kt := contOf E42 G42 L n (codeOf Tryd.f42) (endK E42 Tryd.f42.results.toList R)
noncomputable def rk42 (L : Lp) (R : Option Res → Prop) (n : Nat) (N : St → Prop) : Kt := rk (jof E42 (lp42 n)) N (ct42 L R n)
noncomputable def LOOP42 (L : Lp) (R : Option Res → Prop) (n : Nat) (st : St) : Prop := L (lp42 n) st (ct42 L R n)
theorem hg42 : HG Tryd.prog G42 := hg_nil
theorem okf42 : Ok Tryd.prog E42 := ok3.of Tryd.f42
theorem e42 (L : Lp) (R : Option Res → Prop) (xs : List (Elem ks)) (t : ByteArray) : (bodyP E3 G42 L Tryd.f42 [.ows 0, .val (.string t)] [.row ks xs] R) = (
    LOOP42 L R 2 { tm := [AV.ows 0, vS t, vJ, vJ, vJ, vI 0, vJ, vJ, vJ, vJ, vJ, vJ, vJ, vJ, vJ, vJ, vJ, vJ, vJ, vJ, vJ, vJ, vJ, vJ, vJ, vJ, vJ, vJ, vJ, vJ, vJ, vJ, vJ, vJ, vJ, vJ, vJ, vJ, vJ, vJ, vJ, vJ, vJ, vJ, vJ, vJ, vJ], ob := [(0, AO.row ks xs)], nx := 1000000, ps := [some 0] }) := by kernel_rfl
def st42 (xs : List (Elem ks)) (t : ByteArray) (i : Int) : St :=  ⟨[AV.ows 0, vS t, vJ, vJ, vJ, .val (.int .i64 i), vJ, vJ, vJ, vJ, vJ, vJ, vJ, vJ, vJ, vJ, vJ, vJ, vJ, vJ, vJ, vJ, vJ, vJ, vJ, vJ, vJ, vJ, vJ, vJ, vJ, vJ, vJ, vJ, vJ, vJ, vJ, vJ, vJ, vJ, vJ, vJ, vJ, vJ, vJ, vJ, vJ], [(0, AO.row ks xs)], 1000000, [some 0]⟩
theorem b42 (L : Lp) (R : Option Res → Prop) (N : St → Prop) (xs : List (Elem ks)) (t : ByteArray) (i : Int) : (evP E42 G42 L (lp42 2) (st42 xs t i) (rk42 L R 2 N)) = (
    br (decide (i < (↑xs.length : Int))) (br (decide (0 ≤ i ∧ i < (↑xs.length : Int))) (br (strLt (xs.getD i.toNat (edflt ks)).fst t) (N { tm := [AV.ows 0, vS t, vJ, vJ, vJ, vI (IntKind.i64.wrap (i + 1)), vJ, vJ, vJ, vJ, vJ, vJ, vJ, vJ, vJ, vJ, vJ, vJ, vJ, vJ, vJ, vJ, vJ, vJ, vJ, vJ, vJ, vJ, vJ, vJ, vJ, vJ, vJ, vJ, vJ, vJ, vJ, vJ, vJ, vJ, vJ, vJ, vJ, vJ, vJ, vJ, vJ], ob := [(0, AO.row ks xs)], nx := 1000000, ps := [some 0] }) (br (decide (i < (↑xs.length : Int))) (br (decide (0 ≤ i ∧ i < (↑xs.length : Int))) (br (strEq (xs.getD i.toNat (edflt ks)).fst t) (R (some { av := AV.ows 0, obs := [AO.row ks xs], outs := [none] })) (br (decide (0 ≤ i ∧ i ≤ (↑xs.length : Int) ∧ (↑xs.length : Int) ≤ (↑xs.length : Int) ∧ (↑xs.length : Int) ≤ (↑xs.length : Int))) (br (decide ((0 + (List.take ((↑xs.length : Int) - i).toNat (List.drop i.toNat xs)).length) * 16 ≤ 140737488355328)) (br (decide ((0 : Int) ≤ 0 ∧ 0 ≤ i ∧ i ≤ (↑xs.length : Int) ∧ (↑xs.length : Int) ≤ (↑xs.length : Int))) (br (decide (((List.take (i - 0).toNat (List.drop 0 xs)).length + [(t, ())].length) * 16 ≤ 140737488355328)) (br (decide (((List.take (i - 0).toNat (List.drop 0 xs) ++ [(t, ())]).length + ([] ++ List.take ((↑xs.length : Int) - i).toNat (List.drop i.toNat xs)).length) * 16 ≤ 140737488355328)) (R (some { av := AV.ows 0, obs := [AO.row ks (List.take (i - 0).toNat (List.drop 0 xs) ++ [(t, ())] ++ ([] ++ List.take ((↑xs.length : Int) - i).toNat (List.drop i.toNat xs)))], outs := [none] })) False) False) False) False) False)) False) (br (decide (0 ≤ i ∧ i ≤ (↑xs.length : Int) ∧ (↑xs.length : Int) ≤ (↑xs.length : Int) ∧ (↑xs.length : Int) ≤ (↑xs.length : Int))) (br (decide ((0 + (List.take ((↑xs.length : Int) - i).toNat (List.drop i.toNat xs)).length) * 16 ≤ 140737488355328)) (br (decide ((0 : Int) ≤ 0 ∧ 0 ≤ i ∧ i ≤ (↑xs.length : Int) ∧ (↑xs.length : Int) ≤ (↑xs.length : Int))) (br (decide (((List.take (i - 0).toNat (List.drop 0 xs)).length + [(t, ())].length) * 16 ≤ 140737488355328)) (br (decide (((List.take (i - 0).toNat (List.drop 0 xs) ++ [(t, ())]).length + ([] ++ List.take ((↑xs.length : Int) - i).toNat (List.drop i.toNat xs)).length) * 16 ≤ 140737488355328)) (R (some { av := AV.ows 0, obs := [AO.row ks (List.take (i - 0).toNat (List.drop 0 xs) ++ [(t, ())] ++ ([] ++ List.take ((↑xs.length : Int) - i).toNat (List.drop i.toNat xs)))], outs := [none] })) False) False) False) False) False))) False) (br (decide (i < (↑xs.length : Int))) (br (decide (0 ≤ i ∧ i < (↑xs.length : Int))) (br (strEq (xs.getD i.toNat (edflt ks)).fst t) (R (some { av := AV.ows 0, obs := [AO.row ks xs], outs := [none] })) (br (decide (0 ≤ i ∧ i ≤ (↑xs.length : Int) ∧ (↑xs.length : Int) ≤ (↑xs.length : Int) ∧ (↑xs.length : Int) ≤ (↑xs.length : Int))) (br (decide ((0 + (List.take ((↑xs.length : Int) - i).toNat (List.drop i.toNat xs)).length) * 16 ≤ 140737488355328)) (br (decide ((0 : Int) ≤ 0 ∧ 0 ≤ i ∧ i ≤ (↑xs.length : Int) ∧ (↑xs.length : Int) ≤ (↑xs.length : Int))) (br (decide (((List.take (i - 0).toNat (List.drop 0 xs)).length + [(t, ())].length) * 16 ≤ 140737488355328)) (br (decide (((List.take (i - 0).toNat (List.drop 0 xs) ++ [(t, ())]).length + ([] ++ List.take ((↑xs.length : Int) - i).toNat (List.drop i.toNat xs)).length) * 16 ≤ 140737488355328)) (R (some { av := AV.ows 0, obs := [AO.row ks (List.take (i - 0).toNat (List.drop 0 xs) ++ [(t, ())] ++ ([] ++ List.take ((↑xs.length : Int) - i).toNat (List.drop i.toNat xs)))], outs := [none] })) False) False) False) False) False)) False) (br (decide (0 ≤ i ∧ i ≤ (↑xs.length : Int) ∧ (↑xs.length : Int) ≤ (↑xs.length : Int) ∧ (↑xs.length : Int) ≤ (↑xs.length : Int))) (br (decide ((0 + (List.take ((↑xs.length : Int) - i).toNat (List.drop i.toNat xs)).length) * 16 ≤ 140737488355328)) (br (decide ((0 : Int) ≤ 0 ∧ 0 ≤ i ∧ i ≤ (↑xs.length : Int) ∧ (↑xs.length : Int) ≤ (↑xs.length : Int))) (br (decide (((List.take (i - 0).toNat (List.drop 0 xs)).length + [(t, ())].length) * 16 ≤ 140737488355328)) (br (decide (((List.take (i - 0).toNat (List.drop 0 xs) ++ [(t, ())]).length + ([] ++ List.take ((↑xs.length : Int) - i).toNat (List.drop i.toNat xs)).length) * 16 ≤ 140737488355328)) (R (some { av := AV.ows 0, obs := [AO.row ks (List.take (i - 0).toNat (List.drop 0 xs) ++ [(t, ())] ++ ([] ++ List.take ((↑xs.length : Int) - i).toNat (List.drop i.toNat xs)))], outs := [none] })) False) False) False) False) False))) := by kernel_rfl
theorem h42 : G1Ok Tryd.prog 42 g42 := by
  intro args obs k h
  unfold g42 at h
  split at h
  · rename_i k t xs
    obtain ⟨hl, h⟩ := brd h
    refine ⟨_, ctr_fn ok3 hg42 Tryd.func42 (by kernel_rfl) (by kernel_rfl) (by kernel_rfl) fun C => ?_, h⟩
    rw [e42]
    have yes : ∀ i : Nat, kS xs t = i → i < xs.length → strEq (at1 xs i) t = true → (some ⟨.ows 0, [.row ks xs], [none]⟩ : Option Res) = some ⟨.ows 0, [.row [.str] (addS xs t)], [none]⟩ := fun i hk hi h => by
      unfold addS
      rw [hk, decide_eq_true hi, h]
      rfl
    have no : ∀ i : Nat, i ≤ xs.length → kS xs t = i → (decide (i < xs.length) && strEq (at1 xs i) t) = false → (some ⟨.ows 0, [.row ks (List.take ((i : Int) - 0).toNat (List.drop 0 xs) ++ [(t, ())] ++ ([] ++ List.take ((xs.length : Int) - (i : Int)).toNat (List.drop (i : Int).toNat xs)))], [none]⟩ : Option Res) = some ⟨.ows 0, [.row [.str] (addS xs t)], [none]⟩ := by
      intro i hi hk hc
      unfold addS
      have e1 : List.take (xs.length - i) (List.drop i xs) = List.drop i xs := List.take_of_length_le (by rw [List.length_drop]; omega)
      rw [hk, hc, List.nil_append, List.drop_zero, show ((i : Int) - 0).toNat = i from by omega, Int.toNat_natCast, show ((xs.length : Int) - (i : Int)).toNat = xs.length - i from by omega, e1]
    have sz : ∀ i : Nat, i ≤ xs.length → (0 + (List.take ((xs.length : Int) - (i : Int)).toNat (List.drop (i : Int).toNat xs)).length) * 16 ≤ 140737488355328 ∧ ((List.take ((i : Int) - 0).toNat (List.drop 0 xs)).length + [(t, ())].length) * 16 ≤ 140737488355328 ∧ ((List.take ((i : Int) - 0).toNat (List.drop 0 xs) ++ [(t, ())]).length + ([] ++ List.take ((xs.length : Int) - (i : Int)).toNat (List.drop (i : Int).toNat xs)).length) * 16 ≤ 140737488355328 := by
      intro i hi
      simp only [List.length_take, List.length_drop, List.length_append, List.length_cons, List.length_nil, Int.toNat_natCast]
      omega
    refine loopLn okf42 hg42 (fun i => st42 xs t i) xs.length (fun i => strLt (at1 xs i) t) (by omega) (fun N i hi hw next stop done => ?_)
    show evP E42 G42 _ (lp42 2) (st42 xs t i) (rk42 _ _ 2 _)
    obtain ⟨s1, s2, s3⟩ := sz i hi
    rw [b42, hw]
    have hg : (xs.getD (i : Int).toNat (edflt ks)).1 = at1 xs i := by rw [Int.toNat_natCast]; rfl
    refine br_dec (fun h3 => br_yes ⟨by omega, h3⟩ (br_intro (fun h4 => next (by omega) (by rw [← hg]; exact h4)) (fun h4 => br_dec (fun h5 => br_yes ⟨by omega, h5⟩ (br_intro (fun h6 => yes i (stop (by omega) (by rw [← hg]; exact h4)) (by omega) (by rw [← hg]; exact h6)) (fun h6 => ?_))) (fun h5 => absurd h3 h5)))) (fun h3 => br_no h3 ?_)
    · refine br_yes ⟨by omega, by omega, by omega, by omega⟩ (br_yes s1 (br_yes ⟨by omega, by omega, by omega, by omega⟩ (br_yes s2 (br_yes s3 (no i hi (stop (by omega) (by rw [← hg]; exact h4)) (by rw [← hg, show strEq (xs.getD (i : Int).toNat (edflt ks)).1 t = false from h6, Bool.and_false]))))))
    · refine br_yes ⟨by omega, by omega, by omega, by omega⟩ (br_yes s1 (br_yes ⟨by omega, by omega, by omega, by omega⟩ (br_yes s2 (br_yes s3 (no i hi (done (by omega)) (by rw [decide_eq_false (show ¬ i < xs.length by omega)]; rfl))))))
  · exact h.elim
theorem take_next' {α : Type} (s : List α) (dd : α) {i : Nat} (hi : i < s.length) : s.take (i + 1) = s.take i ++ [s.getD i dd] := by
  rw [List.take_add_one, List.getD_eq_getElem?_getD, List.getElem?_eq_getElem hi]
  rfl
def preO (xs : List (Elem kb)) (i j : Nat) : List (Elem ks) := ((xs.take i).flatMap bks ++ (bks (atB xs i)).take j).foldl (fun o u => putS o u.1) []
theorem bks_len (e : Elem kb) : (bks e).length = 8 := rfl
theorem preO_next (xs : List (Elem kb)) (i : Nat) {j : Nat} (hj : j < 8) : preO xs i (j + 1) = putS (preO xs i j) (at1 (bks (atB xs i)) j) := by
  unfold preO
  rw [take_next' (bks (atB xs i)) (edflt ks) (by rw [bks_len]; exact hj), ← List.append_assoc, List.foldl_append]
  rfl
theorem preO_end {xs : List (Elem kb)} {i : Nat} (hi : i < xs.length) : preO xs (i + 1) 0 = preO xs i 8 := by
  unfold preO
  rw [take_next' xs (edflt kb) hi, List.flatMap_append, List.take_zero, List.append_nil, List.take_of_length_le (Nat.le_of_eq (bks_len _))]
  simp [List.flatMap]
theorem preO_len (xs : List (Elem kb)) (i j : Nat) : (preO xs i j).length ≤ 8 * xs.length + 8 := by
  unfold preO
  have h1 := foldS_len ((xs.take i).flatMap bks ++ (bks (atB xs i)).take j) []
  have h2 : ∀ l : List (Elem kb), (l.flatMap bks).length = 8 * l.length := by
    intro l
    induction l with
    | nil => rfl
    | cons e l ih => rw [List.flatMap_cons, List.length_append, ih, bks_len, List.length_cons]; omega
  rw [List.length_append, h2, List.length_take, List.length_take, bks_len] at h1
  simp only [List.length_nil] at h1
  omega
theorem preO_all (xs : List (Elem kb)) : preO xs xs.length 0 = btxS xs := by
  unfold preO btxS
  rw [List.take_length, List.take_zero, List.append_nil]
theorem btx_f {xs : List (Elem kb)} (h : bookOk xs = false) : btx xs = [] := by unfold btx; rw [h]
theorem btx_t {xs : List (Elem kb)} (h : bookOk xs = true) : btx xs = btxS xs := by unfold btx; rw [h]
theorem bok_len {xs : List (Elem kb)} (h : bookOk xs = true) : xs.length ≤ 6 := by
  unfold bookOk at h
  rw [Bool.and_eq_true, decide_eq_true_eq] at h
  omega
noncomputable def E18 : Env := E3.of Tryd.f18
noncomputable def G18 : Gk := gk [(19, g19), (42, g42)]
noncomputable def lp18 (n : Nat) : Code := (loopOf n (codeOf Tryd.f18)).getD .skip
noncomputable def ct18 (L : Lp) (R : Option Res → Prop) (n : Nat) : Kt := contOf E18 G18 L n (codeOf Tryd.f18) (endK E18 Tryd.f18.results.toList R)
noncomputable def rk18 (L : Lp) (R : Option Res → Prop) (n : Nat) (N : St → Prop) : Kt := rk (jof E18 (lp18 n)) N (ct18 L R n)
noncomputable def rkn18 (L : Lp) (R : Option Res → Prop) (n : Nat) (N : St → Prop) (m : Nat) (N2 : St → Prop) : Kt := rk (jof E18 (lp18 m)) N2 (contOf E18 G18 L m (lp18 n) (rk18 L R n N))
noncomputable def LOOPN18 (L : Lp) (R : Option Res → Prop) (n : Nat) (N : St → Prop) (m : Nat) (st : St) : Prop := L (lp18 m) st (contOf E18 G18 L m (lp18 n) (rk18 L R n N))
noncomputable def LOOP18 (L : Lp) (R : Option Res → Prop) (n : Nat) (st : St) : Prop := L (lp18 n) st (ct18 L R n)
theorem hg18 : HG Tryd.prog G18 := (hg_cons h19 (hg_cons h42 hg_nil))
theorem okf18 : Ok Tryd.prog E18 := ok3.of Tryd.f18
theorem e18 (L : Lp) (R : Option Res → Prop) (xs : List (Elem kb)) : (bodyP E3 G18 L Tryd.f18 [.agg [.rsl kb xs]] [] R) = (
    LOOP18 L R 3 { tm := [vJ, AV.ptr 0 0, vJ, AV.ows 1, vI 0, vJ, vJ, vJ, vJ, vJ, vJ, vJ, vJ, vJ, vJ, vJ, vJ, vJ, vJ, vJ, vJ, vJ, vJ, vJ, vJ, vJ, vJ, vJ, vJ, vJ, vJ, vJ, vJ, vJ, vJ, vJ, vJ, vJ, vJ, vJ, vJ, vJ], ob := [(0, AO.box [AV.rsl kb xs]), (1, AO.row ks [])], nx := 1000000, ps := [] }) := by kernel_rfl
def st18 (xs : List (Elem kb)) (i : Int) (o : List (Elem ks)) : St :=  ⟨[vJ, AV.ptr 0 0, vJ, AV.ows 1, .val (.int .i64 i), vJ, vJ, vJ, vJ, vJ, vJ, vJ, vJ, vJ, vJ, vJ, vJ, vJ, vJ, vJ, vJ, vJ, vJ, vJ, vJ, vJ, vJ, vJ, vJ, vJ, vJ, vJ, vJ, vJ, vJ, vJ, vJ, vJ, vJ, vJ, vJ, vJ], [(0, AO.box [AV.rsl kb xs]), (1, .row ks o)], 1000000, []⟩
theorem b18 (L : Lp) (R : Option Res → Prop) (N : St → Prop) (xs : List (Elem kb)) (i : Int) (o : List (Elem ks)) : (evP E18 G18 L (lp18 3) (st18 xs i o) (rk18 L R 3 N)) = (
    br (smB xs) (br (bookOk xs) (br (decide (i < (↑xs.length : Int))) (LOOPN18 L R 3 N 6 { tm := [vJ, AV.ptr 0 0, vJ, AV.ows 1, vI i, vI 0, vJ, vJ, vJ, vJ, vJ, vJ, vJ, vJ, vJ, vJ, vJ, vJ, vJ, vJ, vJ, vJ, vJ, vJ, vJ, vJ, vJ, vJ, vJ, vJ, vJ, vJ, vJ, vJ, vJ, vJ, vJ, vJ, vJ, vJ, vJ, vJ], ob := [(0, AO.box [AV.rsl kb xs]), (1, AO.row ks o)], nx := 1000000, ps := [] }) (R (some { av := AV.ows 0, obs := [AO.row ks o], outs := [] }))) (R (some { av := AV.ows 0, obs := [AO.row ks o], outs := [] }))) False) := by kernel_rfl
def si18 (xs : List (Elem kb)) (i j : Int) (o : List (Elem ks)) : St :=  ⟨[vJ, AV.ptr 0 0, vJ, AV.ows 1, .val (.int .i64 i), .val (.int .i64 j), vJ, vJ, vJ, vJ, vJ, vJ, vJ, vJ, vJ, vJ, vJ, vJ, vJ, vJ, vJ, vJ, vJ, vJ, vJ, vJ, vJ, vJ, vJ, vJ, vJ, vJ, vJ, vJ, vJ, vJ, vJ, vJ, vJ, vJ, vJ, vJ], [(0, AO.box [AV.rsl kb xs]), (1, .row ks o)], 1000000, []⟩
theorem bi18_0 (L : Lp) (R : Option Res → Prop) (N N2 : St → Prop) (xs : List (Elem kb)) (i : Int) (o : List (Elem ks)) : (evP E18 G18 L (lp18 6) (si18 xs i 0 o) (rkn18 L R 3 N 6 N2)) = (
    br (decide (0 ≤ i ∧ i < (↑xs.length : Int))) (br (!strEq (xs.getD i.toNat (edflt kb)).snd.snd.snd.fst { data := #[] }) (br (decide (0 ≤ i ∧ i < (↑xs.length : Int))) (br (decide (o.length ≤ 1048576)) (N2 { tm := [vJ, AV.ptr 0 0, vJ, AV.ows 1, vI i, vI 1, vJ, vJ, vJ, vJ, vJ, vJ, vJ, vJ, vJ, vJ, vJ, vJ, vJ, vJ, vJ, vJ, vJ, vJ, vJ, vJ, vJ, vJ, vJ, vJ, vJ, vJ, vJ, vJ, vJ, vJ, vJ, vJ, vJ, vJ, vJ, vJ], ob := [(0, AO.box [AV.rsl kb xs]), (1, AO.row ks (addS o (xs.getD i.toNat (edflt kb)).snd.snd.snd.fst))], nx := 1000000, ps := [] }) False) False) (N2 { tm := [vJ, AV.ptr 0 0, vJ, AV.ows 1, vI i, vI 1, vJ, vJ, vJ, vJ, vJ, vJ, vJ, vJ, vJ, vJ, vJ, vJ, vJ, vJ, vJ, vJ, vJ, vJ, vJ, vJ, vJ, vJ, vJ, vJ, vJ, vJ, vJ, vJ, vJ, vJ, vJ, vJ, vJ, vJ, vJ, vJ], ob := [(0, AO.box [AV.rsl kb xs]), (1, AO.row ks o)], nx := 1000000, ps := [] })) False) := by kernel_rfl
theorem bi18_1 (L : Lp) (R : Option Res → Prop) (N N2 : St → Prop) (xs : List (Elem kb)) (i : Int) (o : List (Elem ks)) : (evP E18 G18 L (lp18 6) (si18 xs i 1 o) (rkn18 L R 3 N 6 N2)) = (
    br (decide (0 ≤ i ∧ i < (↑xs.length : Int))) (br (!strEq (xs.getD i.toNat (edflt kb)).snd.snd.snd.snd.fst { data := #[] }) (br (decide (0 ≤ i ∧ i < (↑xs.length : Int))) (br (decide (o.length ≤ 1048576)) (N2 { tm := [vJ, AV.ptr 0 0, vJ, AV.ows 1, vI i, vI 2, vJ, vJ, vJ, vJ, vJ, vJ, vJ, vJ, vJ, vJ, vJ, vJ, vJ, vJ, vJ, vJ, vJ, vJ, vJ, vJ, vJ, vJ, vJ, vJ, vJ, vJ, vJ, vJ, vJ, vJ, vJ, vJ, vJ, vJ, vJ, vJ], ob := [(0, AO.box [AV.rsl kb xs]), (1, AO.row ks (addS o (xs.getD i.toNat (edflt kb)).snd.snd.snd.snd.fst))], nx := 1000000, ps := [] }) False) False) (N2 { tm := [vJ, AV.ptr 0 0, vJ, AV.ows 1, vI i, vI 2, vJ, vJ, vJ, vJ, vJ, vJ, vJ, vJ, vJ, vJ, vJ, vJ, vJ, vJ, vJ, vJ, vJ, vJ, vJ, vJ, vJ, vJ, vJ, vJ, vJ, vJ, vJ, vJ, vJ, vJ, vJ, vJ, vJ, vJ, vJ, vJ], ob := [(0, AO.box [AV.rsl kb xs]), (1, AO.row ks o)], nx := 1000000, ps := [] })) False) := by kernel_rfl
theorem bi18_2 (L : Lp) (R : Option Res → Prop) (N N2 : St → Prop) (xs : List (Elem kb)) (i : Int) (o : List (Elem ks)) : (evP E18 G18 L (lp18 6) (si18 xs i 2 o) (rkn18 L R 3 N 6 N2)) = (
    br (decide (0 ≤ i ∧ i < (↑xs.length : Int))) (br (!strEq (xs.getD i.toNat (edflt kb)).snd.snd.snd.snd.snd.fst { data := #[] }) (br (decide (0 ≤ i ∧ i < (↑xs.length : Int))) (br (decide (o.length ≤ 1048576)) (N2 { tm := [vJ, AV.ptr 0 0, vJ, AV.ows 1, vI i, vI 3, vJ, vJ, vJ, vJ, vJ, vJ, vJ, vJ, vJ, vJ, vJ, vJ, vJ, vJ, vJ, vJ, vJ, vJ, vJ, vJ, vJ, vJ, vJ, vJ, vJ, vJ, vJ, vJ, vJ, vJ, vJ, vJ, vJ, vJ, vJ, vJ], ob := [(0, AO.box [AV.rsl kb xs]), (1, AO.row ks (addS o (xs.getD i.toNat (edflt kb)).snd.snd.snd.snd.snd.fst))], nx := 1000000, ps := [] }) False) False) (N2 { tm := [vJ, AV.ptr 0 0, vJ, AV.ows 1, vI i, vI 3, vJ, vJ, vJ, vJ, vJ, vJ, vJ, vJ, vJ, vJ, vJ, vJ, vJ, vJ, vJ, vJ, vJ, vJ, vJ, vJ, vJ, vJ, vJ, vJ, vJ, vJ, vJ, vJ, vJ, vJ, vJ, vJ, vJ, vJ, vJ, vJ], ob := [(0, AO.box [AV.rsl kb xs]), (1, AO.row ks o)], nx := 1000000, ps := [] })) False) := by kernel_rfl
theorem bi18_3 (L : Lp) (R : Option Res → Prop) (N N2 : St → Prop) (xs : List (Elem kb)) (i : Int) (o : List (Elem ks)) : (evP E18 G18 L (lp18 6) (si18 xs i 3 o) (rkn18 L R 3 N 6 N2)) = (
    br (decide (0 ≤ i ∧ i < (↑xs.length : Int))) (br (!strEq (xs.getD i.toNat (edflt kb)).snd.snd.snd.snd.snd.snd.fst { data := #[] }) (br (decide (0 ≤ i ∧ i < (↑xs.length : Int))) (br (decide (o.length ≤ 1048576)) (N2 { tm := [vJ, AV.ptr 0 0, vJ, AV.ows 1, vI i, vI 4, vJ, vJ, vJ, vJ, vJ, vJ, vJ, vJ, vJ, vJ, vJ, vJ, vJ, vJ, vJ, vJ, vJ, vJ, vJ, vJ, vJ, vJ, vJ, vJ, vJ, vJ, vJ, vJ, vJ, vJ, vJ, vJ, vJ, vJ, vJ, vJ], ob := [(0, AO.box [AV.rsl kb xs]), (1, AO.row ks (addS o (xs.getD i.toNat (edflt kb)).snd.snd.snd.snd.snd.snd.fst))], nx := 1000000, ps := [] }) False) False) (N2 { tm := [vJ, AV.ptr 0 0, vJ, AV.ows 1, vI i, vI 4, vJ, vJ, vJ, vJ, vJ, vJ, vJ, vJ, vJ, vJ, vJ, vJ, vJ, vJ, vJ, vJ, vJ, vJ, vJ, vJ, vJ, vJ, vJ, vJ, vJ, vJ, vJ, vJ, vJ, vJ, vJ, vJ, vJ, vJ, vJ, vJ], ob := [(0, AO.box [AV.rsl kb xs]), (1, AO.row ks o)], nx := 1000000, ps := [] })) False) := by kernel_rfl
theorem bi18_4 (L : Lp) (R : Option Res → Prop) (N N2 : St → Prop) (xs : List (Elem kb)) (i : Int) (o : List (Elem ks)) : (evP E18 G18 L (lp18 6) (si18 xs i 4 o) (rkn18 L R 3 N 6 N2)) = (
    br (decide (0 ≤ i ∧ i < (↑xs.length : Int))) (br (!strEq (xs.getD i.toNat (edflt kb)).snd.snd.snd.snd.snd.snd.snd.fst { data := #[] }) (br (decide (0 ≤ i ∧ i < (↑xs.length : Int))) (br (decide (o.length ≤ 1048576)) (N2 { tm := [vJ, AV.ptr 0 0, vJ, AV.ows 1, vI i, vI 5, vJ, vJ, vJ, vJ, vJ, vJ, vJ, vJ, vJ, vJ, vJ, vJ, vJ, vJ, vJ, vJ, vJ, vJ, vJ, vJ, vJ, vJ, vJ, vJ, vJ, vJ, vJ, vJ, vJ, vJ, vJ, vJ, vJ, vJ, vJ, vJ], ob := [(0, AO.box [AV.rsl kb xs]), (1, AO.row ks (addS o (xs.getD i.toNat (edflt kb)).snd.snd.snd.snd.snd.snd.snd.fst))], nx := 1000000, ps := [] }) False) False) (N2 { tm := [vJ, AV.ptr 0 0, vJ, AV.ows 1, vI i, vI 5, vJ, vJ, vJ, vJ, vJ, vJ, vJ, vJ, vJ, vJ, vJ, vJ, vJ, vJ, vJ, vJ, vJ, vJ, vJ, vJ, vJ, vJ, vJ, vJ, vJ, vJ, vJ, vJ, vJ, vJ, vJ, vJ, vJ, vJ, vJ, vJ], ob := [(0, AO.box [AV.rsl kb xs]), (1, AO.row ks o)], nx := 1000000, ps := [] })) False) := by kernel_rfl
theorem bi18_5 (L : Lp) (R : Option Res → Prop) (N N2 : St → Prop) (xs : List (Elem kb)) (i : Int) (o : List (Elem ks)) : (evP E18 G18 L (lp18 6) (si18 xs i 5 o) (rkn18 L R 3 N 6 N2)) = (
    br (decide (0 ≤ i ∧ i < (↑xs.length : Int))) (br (!strEq (xs.getD i.toNat (edflt kb)).snd.snd.snd.snd.snd.snd.snd.snd.fst { data := #[] }) (br (decide (0 ≤ i ∧ i < (↑xs.length : Int))) (br (decide (o.length ≤ 1048576)) (N2 { tm := [vJ, AV.ptr 0 0, vJ, AV.ows 1, vI i, vI 6, vJ, vJ, vJ, vJ, vJ, vJ, vJ, vJ, vJ, vJ, vJ, vJ, vJ, vJ, vJ, vJ, vJ, vJ, vJ, vJ, vJ, vJ, vJ, vJ, vJ, vJ, vJ, vJ, vJ, vJ, vJ, vJ, vJ, vJ, vJ, vJ], ob := [(0, AO.box [AV.rsl kb xs]), (1, AO.row ks (addS o (xs.getD i.toNat (edflt kb)).snd.snd.snd.snd.snd.snd.snd.snd.fst))], nx := 1000000, ps := [] }) False) False) (N2 { tm := [vJ, AV.ptr 0 0, vJ, AV.ows 1, vI i, vI 6, vJ, vJ, vJ, vJ, vJ, vJ, vJ, vJ, vJ, vJ, vJ, vJ, vJ, vJ, vJ, vJ, vJ, vJ, vJ, vJ, vJ, vJ, vJ, vJ, vJ, vJ, vJ, vJ, vJ, vJ, vJ, vJ, vJ, vJ, vJ, vJ], ob := [(0, AO.box [AV.rsl kb xs]), (1, AO.row ks o)], nx := 1000000, ps := [] })) False) := by kernel_rfl
theorem bi18_6 (L : Lp) (R : Option Res → Prop) (N N2 : St → Prop) (xs : List (Elem kb)) (i : Int) (o : List (Elem ks)) : (evP E18 G18 L (lp18 6) (si18 xs i 6 o) (rkn18 L R 3 N 6 N2)) = (
    br (decide (0 ≤ i ∧ i < (↑xs.length : Int))) (br (!strEq (xs.getD i.toNat (edflt kb)).snd.snd.snd.snd.snd.snd.snd.snd.snd.fst { data := #[] }) (br (decide (0 ≤ i ∧ i < (↑xs.length : Int))) (br (decide (o.length ≤ 1048576)) (N2 { tm := [vJ, AV.ptr 0 0, vJ, AV.ows 1, vI i, vI 7, vJ, vJ, vJ, vJ, vJ, vJ, vJ, vJ, vJ, vJ, vJ, vJ, vJ, vJ, vJ, vJ, vJ, vJ, vJ, vJ, vJ, vJ, vJ, vJ, vJ, vJ, vJ, vJ, vJ, vJ, vJ, vJ, vJ, vJ, vJ, vJ], ob := [(0, AO.box [AV.rsl kb xs]), (1, AO.row ks (addS o (xs.getD i.toNat (edflt kb)).snd.snd.snd.snd.snd.snd.snd.snd.snd.fst))], nx := 1000000, ps := [] }) False) False) (N2 { tm := [vJ, AV.ptr 0 0, vJ, AV.ows 1, vI i, vI 7, vJ, vJ, vJ, vJ, vJ, vJ, vJ, vJ, vJ, vJ, vJ, vJ, vJ, vJ, vJ, vJ, vJ, vJ, vJ, vJ, vJ, vJ, vJ, vJ, vJ, vJ, vJ, vJ, vJ, vJ, vJ, vJ, vJ, vJ, vJ, vJ], ob := [(0, AO.box [AV.rsl kb xs]), (1, AO.row ks o)], nx := 1000000, ps := [] })) False) := by kernel_rfl
theorem bi18_7 (L : Lp) (R : Option Res → Prop) (N N2 : St → Prop) (xs : List (Elem kb)) (i : Int) (o : List (Elem ks)) : (evP E18 G18 L (lp18 6) (si18 xs i 7 o) (rkn18 L R 3 N 6 N2)) = (
    br (decide (0 ≤ i ∧ i < (↑xs.length : Int))) (br (!strEq (xs.getD i.toNat (edflt kb)).snd.snd.snd.snd.snd.snd.snd.snd.snd.snd.fst { data := #[] }) (br (decide (0 ≤ i ∧ i < (↑xs.length : Int))) (br (decide (o.length ≤ 1048576)) (N2 { tm := [vJ, AV.ptr 0 0, vJ, AV.ows 1, vI i, vI 8, vJ, vJ, vJ, vJ, vJ, vJ, vJ, vJ, vJ, vJ, vJ, vJ, vJ, vJ, vJ, vJ, vJ, vJ, vJ, vJ, vJ, vJ, vJ, vJ, vJ, vJ, vJ, vJ, vJ, vJ, vJ, vJ, vJ, vJ, vJ, vJ], ob := [(0, AO.box [AV.rsl kb xs]), (1, AO.row ks (addS o (xs.getD i.toNat (edflt kb)).snd.snd.snd.snd.snd.snd.snd.snd.snd.snd.fst))], nx := 1000000, ps := [] }) False) False) (N2 { tm := [vJ, AV.ptr 0 0, vJ, AV.ows 1, vI i, vI 8, vJ, vJ, vJ, vJ, vJ, vJ, vJ, vJ, vJ, vJ, vJ, vJ, vJ, vJ, vJ, vJ, vJ, vJ, vJ, vJ, vJ, vJ, vJ, vJ, vJ, vJ, vJ, vJ, vJ, vJ, vJ, vJ, vJ, vJ, vJ, vJ], ob := [(0, AO.box [AV.rsl kb xs]), (1, AO.row ks o)], nx := 1000000, ps := [] })) False) := by kernel_rfl
theorem bi18_8 (L : Lp) (R : Option Res → Prop) (N N2 : St → Prop) (xs : List (Elem kb)) (i : Int) (o : List (Elem ks)) : (evP E18 G18 L (lp18 6) (si18 xs i 8 o) (rkn18 L R 3 N 6 N2)) = (
    N { tm := [vJ, AV.ptr 0 0, vJ, AV.ows 1, vI (IntKind.i64.wrap (i + 1)), vJ, vJ, vJ, vJ, vJ, vJ, vJ, vJ, vJ, vJ, vJ, vJ, vJ, vJ, vJ, vJ, vJ, vJ, vJ, vJ, vJ, vJ, vJ, vJ, vJ, vJ, vJ, vJ, vJ, vJ, vJ, vJ, vJ, vJ, vJ, vJ, vJ], ob := [(0, AO.box [AV.rsl kb xs]), (1, AO.row ks o)], nx := 1000000, ps := [] }) := by kernel_rfl
theorem h18 : G1Ok Tryd.prog 18 g18 := by
  intro args obs k h
  unfold g18 at h
  split at h
  · rename_i k xs
    obtain ⟨hs, h⟩ := br_and h
    have hlen := smB_len hs
    refine ⟨_, ctr_fn ok3 hg18 Tryd.func18 (by kernel_rfl) (by kernel_rfl) (by kernel_rfl) fun C => ?_, h⟩
    rw [e18]
    refine loopUp okf18 hg18 (fun i o => st18 xs i o) xs.length (fun i o => o = preO xs i 0 ∧ (i = 0 ∨ bookOk xs = true)) (fun N i o hi ⟨ho, hb0⟩ next => ?_) [] ⟨rfl, .inl rfl⟩
    show evP E18 G18 _ (lp18 3) (st18 xs i o) (rk18 _ _ 3 _)
    rw [b18]
    refine br_t hs (br_intro (fun hb => br_dec (fun h2 => ?_) (fun h2 => ?_)) (fun hb => ?_))
    · have h6 := bok_len hb
      refine loopUp okf18 hg18 (fun j o => si18 xs i j o) 8 (fun j o => o = preO xs i j) (fun N2 j o hj ho next2 => ?_) o ho
      have hol : o.length ≤ 1048576 := by
        have := preO_len xs i j
        rw [← ho] at this
        omega
      have cs : j = 0 ∨ j = 1 ∨ j = 2 ∨ j = 3 ∨ j = 4 ∨ j = 5 ∨ j = 6 ∨ j = 7 ∨ j = 8 := by omega
      rcases cs with rfl | rfl | rfl | rfl | rfl | rfl | rfl | rfl | rfl
      · show evP E18 G18 _ (lp18 6) (si18 xs i 0 o) (rkn18 _ _ 3 N 6 _)
        rw [bi18_0, Int.toNat_natCast]
        refine br_yes ⟨by omega, by omega⟩ (br_not (fun h3 => br_yes ⟨by omega, by omega⟩ (br_yes hol (next2 (by omega) _ ?_))) (fun h3 => next2 (by omega) _ ?_))
        · rw [preO_next xs i (j := 0) (by omega), ← ho]
          unfold putS
          rw [show strEq (at1 (bks (atB xs i)) 0) ⟨#[]⟩ = false from h3]
          rfl
        · rw [preO_next xs i (j := 0) (by omega), ← ho]
          unfold putS
          rw [show strEq (at1 (bks (atB xs i)) 0) ⟨#[]⟩ = true from h3]
      · show evP E18 G18 _ (lp18 6) (si18 xs i 1 o) (rkn18 _ _ 3 N 6 _)
        rw [bi18_1, Int.toNat_natCast]
        refine br_yes ⟨by omega, by omega⟩ (br_not (fun h3 => br_yes ⟨by omega, by omega⟩ (br_yes hol (next2 (by omega) _ ?_))) (fun h3 => next2 (by omega) _ ?_))
        · rw [preO_next xs i (j := 1) (by omega), ← ho]
          unfold putS
          rw [show strEq (at1 (bks (atB xs i)) 1) ⟨#[]⟩ = false from h3]
          rfl
        · rw [preO_next xs i (j := 1) (by omega), ← ho]
          unfold putS
          rw [show strEq (at1 (bks (atB xs i)) 1) ⟨#[]⟩ = true from h3]
      · show evP E18 G18 _ (lp18 6) (si18 xs i 2 o) (rkn18 _ _ 3 N 6 _)
        rw [bi18_2, Int.toNat_natCast]
        refine br_yes ⟨by omega, by omega⟩ (br_not (fun h3 => br_yes ⟨by omega, by omega⟩ (br_yes hol (next2 (by omega) _ ?_))) (fun h3 => next2 (by omega) _ ?_))
        · rw [preO_next xs i (j := 2) (by omega), ← ho]
          unfold putS
          rw [show strEq (at1 (bks (atB xs i)) 2) ⟨#[]⟩ = false from h3]
          rfl
        · rw [preO_next xs i (j := 2) (by omega), ← ho]
          unfold putS
          rw [show strEq (at1 (bks (atB xs i)) 2) ⟨#[]⟩ = true from h3]
      · show evP E18 G18 _ (lp18 6) (si18 xs i 3 o) (rkn18 _ _ 3 N 6 _)
        rw [bi18_3, Int.toNat_natCast]
        refine br_yes ⟨by omega, by omega⟩ (br_not (fun h3 => br_yes ⟨by omega, by omega⟩ (br_yes hol (next2 (by omega) _ ?_))) (fun h3 => next2 (by omega) _ ?_))
        · rw [preO_next xs i (j := 3) (by omega), ← ho]
          unfold putS
          rw [show strEq (at1 (bks (atB xs i)) 3) ⟨#[]⟩ = false from h3]
          rfl
        · rw [preO_next xs i (j := 3) (by omega), ← ho]
          unfold putS
          rw [show strEq (at1 (bks (atB xs i)) 3) ⟨#[]⟩ = true from h3]
      · show evP E18 G18 _ (lp18 6) (si18 xs i 4 o) (rkn18 _ _ 3 N 6 _)
        rw [bi18_4, Int.toNat_natCast]
        refine br_yes ⟨by omega, by omega⟩ (br_not (fun h3 => br_yes ⟨by omega, by omega⟩ (br_yes hol (next2 (by omega) _ ?_))) (fun h3 => next2 (by omega) _ ?_))
        · rw [preO_next xs i (j := 4) (by omega), ← ho]
          unfold putS
          rw [show strEq (at1 (bks (atB xs i)) 4) ⟨#[]⟩ = false from h3]
          rfl
        · rw [preO_next xs i (j := 4) (by omega), ← ho]
          unfold putS
          rw [show strEq (at1 (bks (atB xs i)) 4) ⟨#[]⟩ = true from h3]
      · show evP E18 G18 _ (lp18 6) (si18 xs i 5 o) (rkn18 _ _ 3 N 6 _)
        rw [bi18_5, Int.toNat_natCast]
        refine br_yes ⟨by omega, by omega⟩ (br_not (fun h3 => br_yes ⟨by omega, by omega⟩ (br_yes hol (next2 (by omega) _ ?_))) (fun h3 => next2 (by omega) _ ?_))
        · rw [preO_next xs i (j := 5) (by omega), ← ho]
          unfold putS
          rw [show strEq (at1 (bks (atB xs i)) 5) ⟨#[]⟩ = false from h3]
          rfl
        · rw [preO_next xs i (j := 5) (by omega), ← ho]
          unfold putS
          rw [show strEq (at1 (bks (atB xs i)) 5) ⟨#[]⟩ = true from h3]
      · show evP E18 G18 _ (lp18 6) (si18 xs i 6 o) (rkn18 _ _ 3 N 6 _)
        rw [bi18_6, Int.toNat_natCast]
        refine br_yes ⟨by omega, by omega⟩ (br_not (fun h3 => br_yes ⟨by omega, by omega⟩ (br_yes hol (next2 (by omega) _ ?_))) (fun h3 => next2 (by omega) _ ?_))
        · rw [preO_next xs i (j := 6) (by omega), ← ho]
          unfold putS
          rw [show strEq (at1 (bks (atB xs i)) 6) ⟨#[]⟩ = false from h3]
          rfl
        · rw [preO_next xs i (j := 6) (by omega), ← ho]
          unfold putS
          rw [show strEq (at1 (bks (atB xs i)) 6) ⟨#[]⟩ = true from h3]
      · show evP E18 G18 _ (lp18 6) (si18 xs i 7 o) (rkn18 _ _ 3 N 6 _)
        rw [bi18_7, Int.toNat_natCast]
        refine br_yes ⟨by omega, by omega⟩ (br_not (fun h3 => br_yes ⟨by omega, by omega⟩ (br_yes hol (next2 (by omega) _ ?_))) (fun h3 => next2 (by omega) _ ?_))
        · rw [preO_next xs i (j := 7) (by omega), ← ho]
          unfold putS
          rw [show strEq (at1 (bks (atB xs i)) 7) ⟨#[]⟩ = false from h3]
          rfl
        · rw [preO_next xs i (j := 7) (by omega), ← ho]
          unfold putS
          rw [show strEq (at1 (bks (atB xs i)) 7) ⟨#[]⟩ = true from h3]
      · show evP E18 G18 _ (lp18 6) (si18 xs i 8 o) (rkn18 _ _ 3 N 6 _)
        rw [bi18_8, wrap_id (n := (i : Int) + 1) (by omega) (by omega)]
        exact next (by omega) _ ⟨by rw [preO_end (by omega), ← ho], .inr hb⟩
    · have hi' : i = xs.length := by omega
      show _ = _
      rw [ho, hi', preO_all, btx_t hb]
    · have hi' : i = 0 := by
        rcases hb0 with h | h
        · exact h
        · rw [hb] at h; cases h
      show _ = _
      rw [ho, hi', btx_f hb]
      rfl
  · exact h.elim
def preA (xs : List (Elem kb)) (i j : Nat) : List (Elem ks) := ((xs.take i).flatMap bks ++ (bks (atB xs i)).take j).filter full
theorem preA_next (xs : List (Elem kb)) (i : Nat) {j : Nat} (hj : j < 8) : preA xs i (j + 1) = preA xs i j ++ match strEq (at1 (bks (atB xs i)) j) ⟨#[]⟩ with | true => [] | false => [(at1 (bks (atB xs i)) j, ())] := by
  unfold preA
  rw [take_next' (bks (atB xs i)) (edflt ks) (by rw [bks_len]; exact hj), ← List.append_assoc, List.filter_append (l₁ := (xs.take i).flatMap bks ++ (bks (atB xs i)).take j)]
  have e : List.filter full [(bks (atB xs i)).getD j (edflt ks)] = match strEq (at1 (bks (atB xs i)) j) ⟨#[]⟩ with | true => [] | false => [(at1 (bks (atB xs i)) j, ())] := by
    rw [List.filter_cons]
    show (if (!strEq (at1 (bks (atB xs i)) j) ⟨#[]⟩) = true then _ else _) = _
    cases strEq (at1 (bks (atB xs i)) j) ⟨#[]⟩ <;> rfl
  exact congrArg _ e
theorem preA_end {xs : List (Elem kb)} {i : Nat} (hi : i < xs.length) : preA xs (i + 1) 0 = preA xs i 8 := by
  unfold preA
  rw [take_next' xs (edflt kb) hi, List.flatMap_append, List.take_zero, List.append_nil, List.take_of_length_le (Nat.le_of_eq (bks_len _))]
  simp [List.flatMap]
theorem preA_len (xs : List (Elem kb)) (i j : Nat) : (preA xs i j).length ≤ 8 * xs.length + 8 := by
  unfold preA
  have h1 := List.length_filter_le full ((xs.take i).flatMap bks ++ (bks (atB xs i)).take j)
  have h2 : ∀ l : List (Elem kb), (l.flatMap bks).length = 8 * l.length := by
    intro l
    induction l with
    | nil => rfl
    | cons e l ih => rw [List.flatMap_cons, List.length_append, ih, bks_len, List.length_cons]; omega
  rw [List.length_append, h2, List.length_take, List.length_take, bks_len] at h1
  omega
theorem preA_all (xs : List (Elem kb)) : preA xs xs.length 0 = txs xs := by
  unfold preA txs
  rw [List.take_length, List.take_zero, List.append_nil]
noncomputable def E17 : Env := E3.of Tryd.f17
noncomputable def G17 : Gk := gk [(38, g19), (39, g39), (40, g40), (41, g41)]
noncomputable def lp17 (n : Nat) : Code := (loopOf n (codeOf Tryd.f17)).getD .skip
noncomputable def ct17 (L : Lp) (R : Option Res → Prop) (n : Nat) : Kt := contOf E17 G17 L n (codeOf Tryd.f17) (endK E17 Tryd.f17.results.toList R)
noncomputable def rk17 (L : Lp) (R : Option Res → Prop) (n : Nat) (N : St → Prop) : Kt := rk (jof E17 (lp17 n)) N (ct17 L R n)
noncomputable def rkn17 (L : Lp) (R : Option Res → Prop) (n : Nat) (N : St → Prop) (m : Nat) (N2 : St → Prop) : Kt := rk (jof E17 (lp17 m)) N2 (contOf E17 G17 L m (lp17 n) (rk17 L R n N))
noncomputable def LOOPN17 (L : Lp) (R : Option Res → Prop) (n : Nat) (N : St → Prop) (m : Nat) (st : St) : Prop := L (lp17 m) st (contOf E17 G17 L m (lp17 n) (rk17 L R n N))
noncomputable def LOOP17 (L : Lp) (R : Option Res → Prop) (n : Nat) (st : St) : Prop := L (lp17 n) st (ct17 L R n)
theorem hg17 : HG Tryd.prog G17 := (hg_cons h38 (hg_cons h39 (hg_cons h40 (hg_cons h41 hg_nil))))
theorem okf17 : Ok Tryd.prog E17 := ok3.of Tryd.f17
theorem e17 (L : Lp) (R : Option Res → Prop) (xs : List (Elem kb)) : (bodyP E3 G17 L Tryd.f17 [.agg [.rsl kb xs]] [] R) = (
    br (smB xs) (br (!bookOk xs) (R (some { av := AV.ows 0, obs := [AO.row ks []], outs := [] })) (LOOP17 L R 5 { tm := [vJ, vJ, vJ, AV.ows 0, vJ, vJ, vJ, vJ, vJ, vJ, vJ, vJ, AV.rsl kb xs, vI (↑xs.length : Int), vI 0, vJ, vJ, vJ, vJ, vJ, vJ, vJ, vJ, vJ, vJ, vJ, vJ, vJ, vJ, vJ, vJ, vJ, vJ, vJ, vJ, vJ], ob := [(0, AO.row ks [])], nx := 1000000, ps := [] })) False) := by kernel_rfl
def st17 (xs : List (Elem kb)) (i : Int) (o : List (Elem ks)) : St :=  ⟨[vJ, vJ, vJ, AV.ows 0, vJ, vJ, vJ, vJ, vJ, vJ, vJ, vJ, AV.rsl kb xs, vI (↑xs.length : Int), .val (.int .i64 i), vJ, vJ, vJ, vJ, vJ, vJ, vJ, vJ, vJ, vJ, vJ, vJ, vJ, vJ, vJ, vJ, vJ, vJ, vJ, vJ, vJ], [(0, .row ks o)], 1000000, []⟩
theorem b17 (L : Lp) (R : Option Res → Prop) (N : St → Prop) (xs : List (Elem kb)) (i : Int) (o : List (Elem ks)) : (evP E17 G17 L (lp17 5) (st17 xs i o) (rk17 L R 5 N)) = (
    br (decide (i < (↑xs.length : Int))) (br (decide (0 ≤ i ∧ i < (↑xs.length : Int))) (LOOPN17 L R 5 N 8 { tm := [vJ, vJ, vJ, AV.ows 0, vJ, vJ, vJ, vJ, vJ, vJ, vJ, vJ, AV.rsl kb xs, vI (↑xs.length : Int), vI i, vJ, vJ, vJ, vJ, AV.agg [vS (xs.getD i.toNat (edflt kb)).snd.snd.snd.fst, vS (xs.getD i.toNat (edflt kb)).snd.snd.snd.snd.fst, vS (xs.getD i.toNat (edflt kb)).snd.snd.snd.snd.snd.fst, vS (xs.getD i.toNat (edflt kb)).snd.snd.snd.snd.snd.snd.fst, vS (xs.getD i.toNat (edflt kb)).snd.snd.snd.snd.snd.snd.snd.fst, vS (xs.getD i.toNat (edflt kb)).snd.snd.snd.snd.snd.snd.snd.snd.fst, vS (xs.getD i.toNat (edflt kb)).snd.snd.snd.snd.snd.snd.snd.snd.snd.fst, vS (xs.getD i.toNat (edflt kb)).snd.snd.snd.snd.snd.snd.snd.snd.snd.snd.fst], vI 0, vJ, vJ, vJ, vJ, vJ, vJ, vJ, vJ, vJ, vJ, vJ, vJ, vJ, vJ, vJ], ob := [(0, AO.row ks o)], nx := 1000000, ps := [] }) False) (br (decide (o.length ≤ 1048576)) (br (decide ((srS o).length ≤ 1048576)) (br (decide ((cpS (srS o)).length ≤ 1048576)) (R (some { av := AV.ows 0, obs := [AO.row ks (cpS (srS o))], outs := [] })) False) False) False)) := by kernel_rfl
def si17 (xs : List (Elem kb)) (i j : Int) (o : List (Elem ks)) : St :=  ⟨[vJ, vJ, vJ, AV.ows 0, vJ, vJ, vJ, vJ, vJ, vJ, vJ, vJ, AV.rsl kb xs, vI (↑xs.length : Int), .val (.int .i64 i), vJ, vJ, vJ, vJ, AV.agg [vS (xs.getD i.toNat (edflt kb)).snd.snd.snd.fst, vS (xs.getD i.toNat (edflt kb)).snd.snd.snd.snd.fst, vS (xs.getD i.toNat (edflt kb)).snd.snd.snd.snd.snd.fst, vS (xs.getD i.toNat (edflt kb)).snd.snd.snd.snd.snd.snd.fst, vS (xs.getD i.toNat (edflt kb)).snd.snd.snd.snd.snd.snd.snd.fst, vS (xs.getD i.toNat (edflt kb)).snd.snd.snd.snd.snd.snd.snd.snd.fst, vS (xs.getD i.toNat (edflt kb)).snd.snd.snd.snd.snd.snd.snd.snd.snd.fst, vS (xs.getD i.toNat (edflt kb)).snd.snd.snd.snd.snd.snd.snd.snd.snd.snd.fst], .val (.int .i64 j), vJ, vJ, vJ, vJ, vJ, vJ, vJ, vJ, vJ, vJ, vJ, vJ, vJ, vJ, vJ], [(0, .row ks o)], 1000000, []⟩
theorem bi17_0 (L : Lp) (R : Option Res → Prop) (N N2 : St → Prop) (xs : List (Elem kb)) (i : Int) (o : List (Elem ks)) : (evP E17 G17 L (lp17 8) (si17 xs i 0 o) (rkn17 L R 5 N 8 N2)) = (
    br (!strEq (xs.getD i.toNat (edflt kb)).snd.snd.snd.fst { data := #[] }) (br (decide ((o.length + [((xs.getD i.toNat (edflt kb)).snd.snd.snd.fst, ())].length) * 16 ≤ 140737488355328)) (N2 { tm := [vJ, vJ, vJ, AV.ows 0, vJ, vJ, vJ, vJ, vJ, vJ, vJ, vJ, AV.rsl kb xs, vI (↑xs.length : Int), vI i, vJ, vJ, vJ, vJ, AV.agg [vS (xs.getD i.toNat (edflt kb)).snd.snd.snd.fst, vS (xs.getD i.toNat (edflt kb)).snd.snd.snd.snd.fst, vS (xs.getD i.toNat (edflt kb)).snd.snd.snd.snd.snd.fst, vS (xs.getD i.toNat (edflt kb)).snd.snd.snd.snd.snd.snd.fst, vS (xs.getD i.toNat (edflt kb)).snd.snd.snd.snd.snd.snd.snd.fst, vS (xs.getD i.toNat (edflt kb)).snd.snd.snd.snd.snd.snd.snd.snd.fst, vS (xs.getD i.toNat (edflt kb)).snd.snd.snd.snd.snd.snd.snd.snd.snd.fst, vS (xs.getD i.toNat (edflt kb)).snd.snd.snd.snd.snd.snd.snd.snd.snd.snd.fst], vI 1, vJ, vJ, vJ, vJ, vJ, vJ, vJ, vJ, vJ, vJ, vJ, vJ, vJ, vJ, vJ], ob := [(0, AO.row ks (o ++ [((xs.getD i.toNat (edflt kb)).snd.snd.snd.fst, ())]))], nx := 1000000, ps := [] }) False) (N2 { tm := [vJ, vJ, vJ, AV.ows 0, vJ, vJ, vJ, vJ, vJ, vJ, vJ, vJ, AV.rsl kb xs, vI (↑xs.length : Int), vI i, vJ, vJ, vJ, vJ, AV.agg [vS (xs.getD i.toNat (edflt kb)).snd.snd.snd.fst, vS (xs.getD i.toNat (edflt kb)).snd.snd.snd.snd.fst, vS (xs.getD i.toNat (edflt kb)).snd.snd.snd.snd.snd.fst, vS (xs.getD i.toNat (edflt kb)).snd.snd.snd.snd.snd.snd.fst, vS (xs.getD i.toNat (edflt kb)).snd.snd.snd.snd.snd.snd.snd.fst, vS (xs.getD i.toNat (edflt kb)).snd.snd.snd.snd.snd.snd.snd.snd.fst, vS (xs.getD i.toNat (edflt kb)).snd.snd.snd.snd.snd.snd.snd.snd.snd.fst, vS (xs.getD i.toNat (edflt kb)).snd.snd.snd.snd.snd.snd.snd.snd.snd.snd.fst], vI 1, vJ, vJ, vJ, vJ, vJ, vJ, vJ, vJ, vJ, vJ, vJ, vJ, vJ, vJ, vJ], ob := [(0, AO.row ks o)], nx := 1000000, ps := [] })) := by kernel_rfl
theorem bi17_1 (L : Lp) (R : Option Res → Prop) (N N2 : St → Prop) (xs : List (Elem kb)) (i : Int) (o : List (Elem ks)) : (evP E17 G17 L (lp17 8) (si17 xs i 1 o) (rkn17 L R 5 N 8 N2)) = (
    br (!strEq (xs.getD i.toNat (edflt kb)).snd.snd.snd.snd.fst { data := #[] }) (br (decide ((o.length + [((xs.getD i.toNat (edflt kb)).snd.snd.snd.snd.fst, ())].length) * 16 ≤ 140737488355328)) (N2 { tm := [vJ, vJ, vJ, AV.ows 0, vJ, vJ, vJ, vJ, vJ, vJ, vJ, vJ, AV.rsl kb xs, vI (↑xs.length : Int), vI i, vJ, vJ, vJ, vJ, AV.agg [vS (xs.getD i.toNat (edflt kb)).snd.snd.snd.fst, vS (xs.getD i.toNat (edflt kb)).snd.snd.snd.snd.fst, vS (xs.getD i.toNat (edflt kb)).snd.snd.snd.snd.snd.fst, vS (xs.getD i.toNat (edflt kb)).snd.snd.snd.snd.snd.snd.fst, vS (xs.getD i.toNat (edflt kb)).snd.snd.snd.snd.snd.snd.snd.fst, vS (xs.getD i.toNat (edflt kb)).snd.snd.snd.snd.snd.snd.snd.snd.fst, vS (xs.getD i.toNat (edflt kb)).snd.snd.snd.snd.snd.snd.snd.snd.snd.fst, vS (xs.getD i.toNat (edflt kb)).snd.snd.snd.snd.snd.snd.snd.snd.snd.snd.fst], vI 2, vJ, vJ, vJ, vJ, vJ, vJ, vJ, vJ, vJ, vJ, vJ, vJ, vJ, vJ, vJ], ob := [(0, AO.row ks (o ++ [((xs.getD i.toNat (edflt kb)).snd.snd.snd.snd.fst, ())]))], nx := 1000000, ps := [] }) False) (N2 { tm := [vJ, vJ, vJ, AV.ows 0, vJ, vJ, vJ, vJ, vJ, vJ, vJ, vJ, AV.rsl kb xs, vI (↑xs.length : Int), vI i, vJ, vJ, vJ, vJ, AV.agg [vS (xs.getD i.toNat (edflt kb)).snd.snd.snd.fst, vS (xs.getD i.toNat (edflt kb)).snd.snd.snd.snd.fst, vS (xs.getD i.toNat (edflt kb)).snd.snd.snd.snd.snd.fst, vS (xs.getD i.toNat (edflt kb)).snd.snd.snd.snd.snd.snd.fst, vS (xs.getD i.toNat (edflt kb)).snd.snd.snd.snd.snd.snd.snd.fst, vS (xs.getD i.toNat (edflt kb)).snd.snd.snd.snd.snd.snd.snd.snd.fst, vS (xs.getD i.toNat (edflt kb)).snd.snd.snd.snd.snd.snd.snd.snd.snd.fst, vS (xs.getD i.toNat (edflt kb)).snd.snd.snd.snd.snd.snd.snd.snd.snd.snd.fst], vI 2, vJ, vJ, vJ, vJ, vJ, vJ, vJ, vJ, vJ, vJ, vJ, vJ, vJ, vJ, vJ], ob := [(0, AO.row ks o)], nx := 1000000, ps := [] })) := by kernel_rfl
theorem bi17_2 (L : Lp) (R : Option Res → Prop) (N N2 : St → Prop) (xs : List (Elem kb)) (i : Int) (o : List (Elem ks)) : (evP E17 G17 L (lp17 8) (si17 xs i 2 o) (rkn17 L R 5 N 8 N2)) = (
    br (!strEq (xs.getD i.toNat (edflt kb)).snd.snd.snd.snd.snd.fst { data := #[] }) (br (decide ((o.length + [((xs.getD i.toNat (edflt kb)).snd.snd.snd.snd.snd.fst, ())].length) * 16 ≤ 140737488355328)) (N2 { tm := [vJ, vJ, vJ, AV.ows 0, vJ, vJ, vJ, vJ, vJ, vJ, vJ, vJ, AV.rsl kb xs, vI (↑xs.length : Int), vI i, vJ, vJ, vJ, vJ, AV.agg [vS (xs.getD i.toNat (edflt kb)).snd.snd.snd.fst, vS (xs.getD i.toNat (edflt kb)).snd.snd.snd.snd.fst, vS (xs.getD i.toNat (edflt kb)).snd.snd.snd.snd.snd.fst, vS (xs.getD i.toNat (edflt kb)).snd.snd.snd.snd.snd.snd.fst, vS (xs.getD i.toNat (edflt kb)).snd.snd.snd.snd.snd.snd.snd.fst, vS (xs.getD i.toNat (edflt kb)).snd.snd.snd.snd.snd.snd.snd.snd.fst, vS (xs.getD i.toNat (edflt kb)).snd.snd.snd.snd.snd.snd.snd.snd.snd.fst, vS (xs.getD i.toNat (edflt kb)).snd.snd.snd.snd.snd.snd.snd.snd.snd.snd.fst], vI 3, vJ, vJ, vJ, vJ, vJ, vJ, vJ, vJ, vJ, vJ, vJ, vJ, vJ, vJ, vJ], ob := [(0, AO.row ks (o ++ [((xs.getD i.toNat (edflt kb)).snd.snd.snd.snd.snd.fst, ())]))], nx := 1000000, ps := [] }) False) (N2 { tm := [vJ, vJ, vJ, AV.ows 0, vJ, vJ, vJ, vJ, vJ, vJ, vJ, vJ, AV.rsl kb xs, vI (↑xs.length : Int), vI i, vJ, vJ, vJ, vJ, AV.agg [vS (xs.getD i.toNat (edflt kb)).snd.snd.snd.fst, vS (xs.getD i.toNat (edflt kb)).snd.snd.snd.snd.fst, vS (xs.getD i.toNat (edflt kb)).snd.snd.snd.snd.snd.fst, vS (xs.getD i.toNat (edflt kb)).snd.snd.snd.snd.snd.snd.fst, vS (xs.getD i.toNat (edflt kb)).snd.snd.snd.snd.snd.snd.snd.fst, vS (xs.getD i.toNat (edflt kb)).snd.snd.snd.snd.snd.snd.snd.snd.fst, vS (xs.getD i.toNat (edflt kb)).snd.snd.snd.snd.snd.snd.snd.snd.snd.fst, vS (xs.getD i.toNat (edflt kb)).snd.snd.snd.snd.snd.snd.snd.snd.snd.snd.fst], vI 3, vJ, vJ, vJ, vJ, vJ, vJ, vJ, vJ, vJ, vJ, vJ, vJ, vJ, vJ, vJ], ob := [(0, AO.row ks o)], nx := 1000000, ps := [] })) := by kernel_rfl
theorem bi17_3 (L : Lp) (R : Option Res → Prop) (N N2 : St → Prop) (xs : List (Elem kb)) (i : Int) (o : List (Elem ks)) : (evP E17 G17 L (lp17 8) (si17 xs i 3 o) (rkn17 L R 5 N 8 N2)) = (
    br (!strEq (xs.getD i.toNat (edflt kb)).snd.snd.snd.snd.snd.snd.fst { data := #[] }) (br (decide ((o.length + [((xs.getD i.toNat (edflt kb)).snd.snd.snd.snd.snd.snd.fst, ())].length) * 16 ≤ 140737488355328)) (N2 { tm := [vJ, vJ, vJ, AV.ows 0, vJ, vJ, vJ, vJ, vJ, vJ, vJ, vJ, AV.rsl kb xs, vI (↑xs.length : Int), vI i, vJ, vJ, vJ, vJ, AV.agg [vS (xs.getD i.toNat (edflt kb)).snd.snd.snd.fst, vS (xs.getD i.toNat (edflt kb)).snd.snd.snd.snd.fst, vS (xs.getD i.toNat (edflt kb)).snd.snd.snd.snd.snd.fst, vS (xs.getD i.toNat (edflt kb)).snd.snd.snd.snd.snd.snd.fst, vS (xs.getD i.toNat (edflt kb)).snd.snd.snd.snd.snd.snd.snd.fst, vS (xs.getD i.toNat (edflt kb)).snd.snd.snd.snd.snd.snd.snd.snd.fst, vS (xs.getD i.toNat (edflt kb)).snd.snd.snd.snd.snd.snd.snd.snd.snd.fst, vS (xs.getD i.toNat (edflt kb)).snd.snd.snd.snd.snd.snd.snd.snd.snd.snd.fst], vI 4, vJ, vJ, vJ, vJ, vJ, vJ, vJ, vJ, vJ, vJ, vJ, vJ, vJ, vJ, vJ], ob := [(0, AO.row ks (o ++ [((xs.getD i.toNat (edflt kb)).snd.snd.snd.snd.snd.snd.fst, ())]))], nx := 1000000, ps := [] }) False) (N2 { tm := [vJ, vJ, vJ, AV.ows 0, vJ, vJ, vJ, vJ, vJ, vJ, vJ, vJ, AV.rsl kb xs, vI (↑xs.length : Int), vI i, vJ, vJ, vJ, vJ, AV.agg [vS (xs.getD i.toNat (edflt kb)).snd.snd.snd.fst, vS (xs.getD i.toNat (edflt kb)).snd.snd.snd.snd.fst, vS (xs.getD i.toNat (edflt kb)).snd.snd.snd.snd.snd.fst, vS (xs.getD i.toNat (edflt kb)).snd.snd.snd.snd.snd.snd.fst, vS (xs.getD i.toNat (edflt kb)).snd.snd.snd.snd.snd.snd.snd.fst, vS (xs.getD i.toNat (edflt kb)).snd.snd.snd.snd.snd.snd.snd.snd.fst, vS (xs.getD i.toNat (edflt kb)).snd.snd.snd.snd.snd.snd.snd.snd.snd.fst, vS (xs.getD i.toNat (edflt kb)).snd.snd.snd.snd.snd.snd.snd.snd.snd.snd.fst], vI 4, vJ, vJ, vJ, vJ, vJ, vJ, vJ, vJ, vJ, vJ, vJ, vJ, vJ, vJ, vJ], ob := [(0, AO.row ks o)], nx := 1000000, ps := [] })) := by kernel_rfl
theorem bi17_4 (L : Lp) (R : Option Res → Prop) (N N2 : St → Prop) (xs : List (Elem kb)) (i : Int) (o : List (Elem ks)) : (evP E17 G17 L (lp17 8) (si17 xs i 4 o) (rkn17 L R 5 N 8 N2)) = (
    br (!strEq (xs.getD i.toNat (edflt kb)).snd.snd.snd.snd.snd.snd.snd.fst { data := #[] }) (br (decide ((o.length + [((xs.getD i.toNat (edflt kb)).snd.snd.snd.snd.snd.snd.snd.fst, ())].length) * 16 ≤ 140737488355328)) (N2 { tm := [vJ, vJ, vJ, AV.ows 0, vJ, vJ, vJ, vJ, vJ, vJ, vJ, vJ, AV.rsl kb xs, vI (↑xs.length : Int), vI i, vJ, vJ, vJ, vJ, AV.agg [vS (xs.getD i.toNat (edflt kb)).snd.snd.snd.fst, vS (xs.getD i.toNat (edflt kb)).snd.snd.snd.snd.fst, vS (xs.getD i.toNat (edflt kb)).snd.snd.snd.snd.snd.fst, vS (xs.getD i.toNat (edflt kb)).snd.snd.snd.snd.snd.snd.fst, vS (xs.getD i.toNat (edflt kb)).snd.snd.snd.snd.snd.snd.snd.fst, vS (xs.getD i.toNat (edflt kb)).snd.snd.snd.snd.snd.snd.snd.snd.fst, vS (xs.getD i.toNat (edflt kb)).snd.snd.snd.snd.snd.snd.snd.snd.snd.fst, vS (xs.getD i.toNat (edflt kb)).snd.snd.snd.snd.snd.snd.snd.snd.snd.snd.fst], vI 5, vJ, vJ, vJ, vJ, vJ, vJ, vJ, vJ, vJ, vJ, vJ, vJ, vJ, vJ, vJ], ob := [(0, AO.row ks (o ++ [((xs.getD i.toNat (edflt kb)).snd.snd.snd.snd.snd.snd.snd.fst, ())]))], nx := 1000000, ps := [] }) False) (N2 { tm := [vJ, vJ, vJ, AV.ows 0, vJ, vJ, vJ, vJ, vJ, vJ, vJ, vJ, AV.rsl kb xs, vI (↑xs.length : Int), vI i, vJ, vJ, vJ, vJ, AV.agg [vS (xs.getD i.toNat (edflt kb)).snd.snd.snd.fst, vS (xs.getD i.toNat (edflt kb)).snd.snd.snd.snd.fst, vS (xs.getD i.toNat (edflt kb)).snd.snd.snd.snd.snd.fst, vS (xs.getD i.toNat (edflt kb)).snd.snd.snd.snd.snd.snd.fst, vS (xs.getD i.toNat (edflt kb)).snd.snd.snd.snd.snd.snd.snd.fst, vS (xs.getD i.toNat (edflt kb)).snd.snd.snd.snd.snd.snd.snd.snd.fst, vS (xs.getD i.toNat (edflt kb)).snd.snd.snd.snd.snd.snd.snd.snd.snd.fst, vS (xs.getD i.toNat (edflt kb)).snd.snd.snd.snd.snd.snd.snd.snd.snd.snd.fst], vI 5, vJ, vJ, vJ, vJ, vJ, vJ, vJ, vJ, vJ, vJ, vJ, vJ, vJ, vJ, vJ], ob := [(0, AO.row ks o)], nx := 1000000, ps := [] })) := by kernel_rfl
theorem bi17_5 (L : Lp) (R : Option Res → Prop) (N N2 : St → Prop) (xs : List (Elem kb)) (i : Int) (o : List (Elem ks)) : (evP E17 G17 L (lp17 8) (si17 xs i 5 o) (rkn17 L R 5 N 8 N2)) = (
    br (!strEq (xs.getD i.toNat (edflt kb)).snd.snd.snd.snd.snd.snd.snd.snd.fst { data := #[] }) (br (decide ((o.length + [((xs.getD i.toNat (edflt kb)).snd.snd.snd.snd.snd.snd.snd.snd.fst, ())].length) * 16 ≤ 140737488355328)) (N2 { tm := [vJ, vJ, vJ, AV.ows 0, vJ, vJ, vJ, vJ, vJ, vJ, vJ, vJ, AV.rsl kb xs, vI (↑xs.length : Int), vI i, vJ, vJ, vJ, vJ, AV.agg [vS (xs.getD i.toNat (edflt kb)).snd.snd.snd.fst, vS (xs.getD i.toNat (edflt kb)).snd.snd.snd.snd.fst, vS (xs.getD i.toNat (edflt kb)).snd.snd.snd.snd.snd.fst, vS (xs.getD i.toNat (edflt kb)).snd.snd.snd.snd.snd.snd.fst, vS (xs.getD i.toNat (edflt kb)).snd.snd.snd.snd.snd.snd.snd.fst, vS (xs.getD i.toNat (edflt kb)).snd.snd.snd.snd.snd.snd.snd.snd.fst, vS (xs.getD i.toNat (edflt kb)).snd.snd.snd.snd.snd.snd.snd.snd.snd.fst, vS (xs.getD i.toNat (edflt kb)).snd.snd.snd.snd.snd.snd.snd.snd.snd.snd.fst], vI 6, vJ, vJ, vJ, vJ, vJ, vJ, vJ, vJ, vJ, vJ, vJ, vJ, vJ, vJ, vJ], ob := [(0, AO.row ks (o ++ [((xs.getD i.toNat (edflt kb)).snd.snd.snd.snd.snd.snd.snd.snd.fst, ())]))], nx := 1000000, ps := [] }) False) (N2 { tm := [vJ, vJ, vJ, AV.ows 0, vJ, vJ, vJ, vJ, vJ, vJ, vJ, vJ, AV.rsl kb xs, vI (↑xs.length : Int), vI i, vJ, vJ, vJ, vJ, AV.agg [vS (xs.getD i.toNat (edflt kb)).snd.snd.snd.fst, vS (xs.getD i.toNat (edflt kb)).snd.snd.snd.snd.fst, vS (xs.getD i.toNat (edflt kb)).snd.snd.snd.snd.snd.fst, vS (xs.getD i.toNat (edflt kb)).snd.snd.snd.snd.snd.snd.fst, vS (xs.getD i.toNat (edflt kb)).snd.snd.snd.snd.snd.snd.snd.fst, vS (xs.getD i.toNat (edflt kb)).snd.snd.snd.snd.snd.snd.snd.snd.fst, vS (xs.getD i.toNat (edflt kb)).snd.snd.snd.snd.snd.snd.snd.snd.snd.fst, vS (xs.getD i.toNat (edflt kb)).snd.snd.snd.snd.snd.snd.snd.snd.snd.snd.fst], vI 6, vJ, vJ, vJ, vJ, vJ, vJ, vJ, vJ, vJ, vJ, vJ, vJ, vJ, vJ, vJ], ob := [(0, AO.row ks o)], nx := 1000000, ps := [] })) := by kernel_rfl
theorem bi17_6 (L : Lp) (R : Option Res → Prop) (N N2 : St → Prop) (xs : List (Elem kb)) (i : Int) (o : List (Elem ks)) : (evP E17 G17 L (lp17 8) (si17 xs i 6 o) (rkn17 L R 5 N 8 N2)) = (
    br (!strEq (xs.getD i.toNat (edflt kb)).snd.snd.snd.snd.snd.snd.snd.snd.snd.fst { data := #[] }) (br (decide ((o.length + [((xs.getD i.toNat (edflt kb)).snd.snd.snd.snd.snd.snd.snd.snd.snd.fst, ())].length) * 16 ≤ 140737488355328)) (N2 { tm := [vJ, vJ, vJ, AV.ows 0, vJ, vJ, vJ, vJ, vJ, vJ, vJ, vJ, AV.rsl kb xs, vI (↑xs.length : Int), vI i, vJ, vJ, vJ, vJ, AV.agg [vS (xs.getD i.toNat (edflt kb)).snd.snd.snd.fst, vS (xs.getD i.toNat (edflt kb)).snd.snd.snd.snd.fst, vS (xs.getD i.toNat (edflt kb)).snd.snd.snd.snd.snd.fst, vS (xs.getD i.toNat (edflt kb)).snd.snd.snd.snd.snd.snd.fst, vS (xs.getD i.toNat (edflt kb)).snd.snd.snd.snd.snd.snd.snd.fst, vS (xs.getD i.toNat (edflt kb)).snd.snd.snd.snd.snd.snd.snd.snd.fst, vS (xs.getD i.toNat (edflt kb)).snd.snd.snd.snd.snd.snd.snd.snd.snd.fst, vS (xs.getD i.toNat (edflt kb)).snd.snd.snd.snd.snd.snd.snd.snd.snd.snd.fst], vI 7, vJ, vJ, vJ, vJ, vJ, vJ, vJ, vJ, vJ, vJ, vJ, vJ, vJ, vJ, vJ], ob := [(0, AO.row ks (o ++ [((xs.getD i.toNat (edflt kb)).snd.snd.snd.snd.snd.snd.snd.snd.snd.fst, ())]))], nx := 1000000, ps := [] }) False) (N2 { tm := [vJ, vJ, vJ, AV.ows 0, vJ, vJ, vJ, vJ, vJ, vJ, vJ, vJ, AV.rsl kb xs, vI (↑xs.length : Int), vI i, vJ, vJ, vJ, vJ, AV.agg [vS (xs.getD i.toNat (edflt kb)).snd.snd.snd.fst, vS (xs.getD i.toNat (edflt kb)).snd.snd.snd.snd.fst, vS (xs.getD i.toNat (edflt kb)).snd.snd.snd.snd.snd.fst, vS (xs.getD i.toNat (edflt kb)).snd.snd.snd.snd.snd.snd.fst, vS (xs.getD i.toNat (edflt kb)).snd.snd.snd.snd.snd.snd.snd.fst, vS (xs.getD i.toNat (edflt kb)).snd.snd.snd.snd.snd.snd.snd.snd.fst, vS (xs.getD i.toNat (edflt kb)).snd.snd.snd.snd.snd.snd.snd.snd.snd.fst, vS (xs.getD i.toNat (edflt kb)).snd.snd.snd.snd.snd.snd.snd.snd.snd.snd.fst], vI 7, vJ, vJ, vJ, vJ, vJ, vJ, vJ, vJ, vJ, vJ, vJ, vJ, vJ, vJ, vJ], ob := [(0, AO.row ks o)], nx := 1000000, ps := [] })) := by kernel_rfl
theorem bi17_7 (L : Lp) (R : Option Res → Prop) (N N2 : St → Prop) (xs : List (Elem kb)) (i : Int) (o : List (Elem ks)) : (evP E17 G17 L (lp17 8) (si17 xs i 7 o) (rkn17 L R 5 N 8 N2)) = (
    br (!strEq (xs.getD i.toNat (edflt kb)).snd.snd.snd.snd.snd.snd.snd.snd.snd.snd.fst { data := #[] }) (br (decide ((o.length + [(xs.getD i.toNat (edflt kb)).snd.snd.snd.snd.snd.snd.snd.snd.snd.snd].length) * 16 ≤ 140737488355328)) (N2 { tm := [vJ, vJ, vJ, AV.ows 0, vJ, vJ, vJ, vJ, vJ, vJ, vJ, vJ, AV.rsl kb xs, vI (↑xs.length : Int), vI i, vJ, vJ, vJ, vJ, AV.agg [vS (xs.getD i.toNat (edflt kb)).snd.snd.snd.fst, vS (xs.getD i.toNat (edflt kb)).snd.snd.snd.snd.fst, vS (xs.getD i.toNat (edflt kb)).snd.snd.snd.snd.snd.fst, vS (xs.getD i.toNat (edflt kb)).snd.snd.snd.snd.snd.snd.fst, vS (xs.getD i.toNat (edflt kb)).snd.snd.snd.snd.snd.snd.snd.fst, vS (xs.getD i.toNat (edflt kb)).snd.snd.snd.snd.snd.snd.snd.snd.fst, vS (xs.getD i.toNat (edflt kb)).snd.snd.snd.snd.snd.snd.snd.snd.snd.fst, vS (xs.getD i.toNat (edflt kb)).snd.snd.snd.snd.snd.snd.snd.snd.snd.snd.fst], vI 8, vJ, vJ, vJ, vJ, vJ, vJ, vJ, vJ, vJ, vJ, vJ, vJ, vJ, vJ, vJ], ob := [(0, AO.row ks (o ++ [(xs.getD i.toNat (edflt kb)).snd.snd.snd.snd.snd.snd.snd.snd.snd.snd]))], nx := 1000000, ps := [] }) False) (N2 { tm := [vJ, vJ, vJ, AV.ows 0, vJ, vJ, vJ, vJ, vJ, vJ, vJ, vJ, AV.rsl kb xs, vI (↑xs.length : Int), vI i, vJ, vJ, vJ, vJ, AV.agg [vS (xs.getD i.toNat (edflt kb)).snd.snd.snd.fst, vS (xs.getD i.toNat (edflt kb)).snd.snd.snd.snd.fst, vS (xs.getD i.toNat (edflt kb)).snd.snd.snd.snd.snd.fst, vS (xs.getD i.toNat (edflt kb)).snd.snd.snd.snd.snd.snd.fst, vS (xs.getD i.toNat (edflt kb)).snd.snd.snd.snd.snd.snd.snd.fst, vS (xs.getD i.toNat (edflt kb)).snd.snd.snd.snd.snd.snd.snd.snd.fst, vS (xs.getD i.toNat (edflt kb)).snd.snd.snd.snd.snd.snd.snd.snd.snd.fst, vS (xs.getD i.toNat (edflt kb)).snd.snd.snd.snd.snd.snd.snd.snd.snd.snd.fst], vI 8, vJ, vJ, vJ, vJ, vJ, vJ, vJ, vJ, vJ, vJ, vJ, vJ, vJ, vJ, vJ], ob := [(0, AO.row ks o)], nx := 1000000, ps := [] })) := by kernel_rfl
theorem bi17_8 (L : Lp) (R : Option Res → Prop) (N N2 : St → Prop) (xs : List (Elem kb)) (i : Int) (o : List (Elem ks)) : (evP E17 G17 L (lp17 8) (si17 xs i 8 o) (rkn17 L R 5 N 8 N2)) = (
    N { tm := [vJ, vJ, vJ, AV.ows 0, vJ, vJ, vJ, vJ, vJ, vJ, vJ, vJ, AV.rsl kb xs, vI (↑xs.length : Int), vI (IntKind.i64.wrap (i + 1)), vJ, vJ, vJ, vJ, vJ, vJ, vJ, vJ, vJ, vJ, vJ, vJ, vJ, vJ, vJ, vJ, vJ, vJ, vJ, vJ, vJ], ob := [(0, AO.row ks o)], nx := 1000000, ps := [] }) := by kernel_rfl
theorem h17 : G1Ok Tryd.prog 17 g18 := by
  intro args obs k h
  unfold g18 at h
  split at h
  · rename_i k xs
    obtain ⟨hs, h⟩ := br_and h
    have hlen := smB_len hs
    refine ⟨_, ctr_fn ok3 hg17 Tryd.func17 (by kernel_rfl) (by kernel_rfl) (by kernel_rfl) fun C => ?_, h⟩
    rw [e17]
    refine br_t hs (br_not (fun hb => ?_) (fun hb => ?_))
    · show _ = _
      rw [btx_f hb]
    have h6 := bok_len hb
    refine loopUp okf17 hg17 (fun i o => st17 xs i o) xs.length (fun i o => o = preA xs i 0) (fun N i o hi ho next => ?_) [] rfl
    show evP E17 G17 _ (lp17 5) (st17 xs i o) (rk17 _ _ 5 _)
    rw [b17]
    refine br_dec (fun h2 => br_yes ⟨by omega, h2⟩ ?_) (fun h2 => ?_)
    · refine loopUp okf17 hg17 (fun j o => si17 xs i j o) 8 (fun j o => o = preA xs i j) (fun N2 j o hj ho next2 => ?_) o ho
      have hol := preA_len xs i j
      rw [← ho] at hol
      have cs : j = 0 ∨ j = 1 ∨ j = 2 ∨ j = 3 ∨ j = 4 ∨ j = 5 ∨ j = 6 ∨ j = 7 ∨ j = 8 := by omega
      rcases cs with rfl | rfl | rfl | rfl | rfl | rfl | rfl | rfl | rfl
      · show evP E17 G17 _ (lp17 8) (si17 xs i 0 o) (rkn17 _ _ 5 N 8 _)
        rw [bi17_0]
        refine br_not (fun h3 => br_yes ?_ (next2 (by omega) _ ?_)) (fun h3 => next2 (by omega) _ ?_)
        · show (o.length + 1) * 16 ≤ _
          omega
        · have h3 : strEq (at1 (bks (atB xs i)) 0) ⟨#[]⟩ = false := by
            have := h3
            rw [Int.toNat_natCast] at this
            exact this
          rw [preA_next xs i (j := 0) (by omega), ← ho, h3, Int.toNat_natCast]
          rfl
        · have h3 : strEq (at1 (bks (atB xs i)) 0) ⟨#[]⟩ = true := by
            have := h3
            rw [Int.toNat_natCast] at this
            exact this
          rw [preA_next xs i (j := 0) (by omega), ← ho, h3]
          exact (List.append_nil _).symm
      · show evP E17 G17 _ (lp17 8) (si17 xs i 1 o) (rkn17 _ _ 5 N 8 _)
        rw [bi17_1]
        refine br_not (fun h3 => br_yes ?_ (next2 (by omega) _ ?_)) (fun h3 => next2 (by omega) _ ?_)
        · show (o.length + 1) * 16 ≤ _
          omega
        · have h3 : strEq (at1 (bks (atB xs i)) 1) ⟨#[]⟩ = false := by
            have := h3
            rw [Int.toNat_natCast] at this
            exact this
          rw [preA_next xs i (j := 1) (by omega), ← ho, h3, Int.toNat_natCast]
          rfl
        · have h3 : strEq (at1 (bks (atB xs i)) 1) ⟨#[]⟩ = true := by
            have := h3
            rw [Int.toNat_natCast] at this
            exact this
          rw [preA_next xs i (j := 1) (by omega), ← ho, h3]
          exact (List.append_nil _).symm
      · show evP E17 G17 _ (lp17 8) (si17 xs i 2 o) (rkn17 _ _ 5 N 8 _)
        rw [bi17_2]
        refine br_not (fun h3 => br_yes ?_ (next2 (by omega) _ ?_)) (fun h3 => next2 (by omega) _ ?_)
        · show (o.length + 1) * 16 ≤ _
          omega
        · have h3 : strEq (at1 (bks (atB xs i)) 2) ⟨#[]⟩ = false := by
            have := h3
            rw [Int.toNat_natCast] at this
            exact this
          rw [preA_next xs i (j := 2) (by omega), ← ho, h3, Int.toNat_natCast]
          rfl
        · have h3 : strEq (at1 (bks (atB xs i)) 2) ⟨#[]⟩ = true := by
            have := h3
            rw [Int.toNat_natCast] at this
            exact this
          rw [preA_next xs i (j := 2) (by omega), ← ho, h3]
          exact (List.append_nil _).symm
      · show evP E17 G17 _ (lp17 8) (si17 xs i 3 o) (rkn17 _ _ 5 N 8 _)
        rw [bi17_3]
        refine br_not (fun h3 => br_yes ?_ (next2 (by omega) _ ?_)) (fun h3 => next2 (by omega) _ ?_)
        · show (o.length + 1) * 16 ≤ _
          omega
        · have h3 : strEq (at1 (bks (atB xs i)) 3) ⟨#[]⟩ = false := by
            have := h3
            rw [Int.toNat_natCast] at this
            exact this
          rw [preA_next xs i (j := 3) (by omega), ← ho, h3, Int.toNat_natCast]
          rfl
        · have h3 : strEq (at1 (bks (atB xs i)) 3) ⟨#[]⟩ = true := by
            have := h3
            rw [Int.toNat_natCast] at this
            exact this
          rw [preA_next xs i (j := 3) (by omega), ← ho, h3]
          exact (List.append_nil _).symm
      · show evP E17 G17 _ (lp17 8) (si17 xs i 4 o) (rkn17 _ _ 5 N 8 _)
        rw [bi17_4]
        refine br_not (fun h3 => br_yes ?_ (next2 (by omega) _ ?_)) (fun h3 => next2 (by omega) _ ?_)
        · show (o.length + 1) * 16 ≤ _
          omega
        · have h3 : strEq (at1 (bks (atB xs i)) 4) ⟨#[]⟩ = false := by
            have := h3
            rw [Int.toNat_natCast] at this
            exact this
          rw [preA_next xs i (j := 4) (by omega), ← ho, h3, Int.toNat_natCast]
          rfl
        · have h3 : strEq (at1 (bks (atB xs i)) 4) ⟨#[]⟩ = true := by
            have := h3
            rw [Int.toNat_natCast] at this
            exact this
          rw [preA_next xs i (j := 4) (by omega), ← ho, h3]
          exact (List.append_nil _).symm
      · show evP E17 G17 _ (lp17 8) (si17 xs i 5 o) (rkn17 _ _ 5 N 8 _)
        rw [bi17_5]
        refine br_not (fun h3 => br_yes ?_ (next2 (by omega) _ ?_)) (fun h3 => next2 (by omega) _ ?_)
        · show (o.length + 1) * 16 ≤ _
          omega
        · have h3 : strEq (at1 (bks (atB xs i)) 5) ⟨#[]⟩ = false := by
            have := h3
            rw [Int.toNat_natCast] at this
            exact this
          rw [preA_next xs i (j := 5) (by omega), ← ho, h3, Int.toNat_natCast]
          rfl
        · have h3 : strEq (at1 (bks (atB xs i)) 5) ⟨#[]⟩ = true := by
            have := h3
            rw [Int.toNat_natCast] at this
            exact this
          rw [preA_next xs i (j := 5) (by omega), ← ho, h3]
          exact (List.append_nil _).symm
      · show evP E17 G17 _ (lp17 8) (si17 xs i 6 o) (rkn17 _ _ 5 N 8 _)
        rw [bi17_6]
        refine br_not (fun h3 => br_yes ?_ (next2 (by omega) _ ?_)) (fun h3 => next2 (by omega) _ ?_)
        · show (o.length + 1) * 16 ≤ _
          omega
        · have h3 : strEq (at1 (bks (atB xs i)) 6) ⟨#[]⟩ = false := by
            have := h3
            rw [Int.toNat_natCast] at this
            exact this
          rw [preA_next xs i (j := 6) (by omega), ← ho, h3, Int.toNat_natCast]
          rfl
        · have h3 : strEq (at1 (bks (atB xs i)) 6) ⟨#[]⟩ = true := by
            have := h3
            rw [Int.toNat_natCast] at this
            exact this
          rw [preA_next xs i (j := 6) (by omega), ← ho, h3]
          exact (List.append_nil _).symm
      · show evP E17 G17 _ (lp17 8) (si17 xs i 7 o) (rkn17 _ _ 5 N 8 _)
        rw [bi17_7]
        refine br_not (fun h3 => br_yes ?_ (next2 (by omega) _ ?_)) (fun h3 => next2 (by omega) _ ?_)
        · show (o.length + 1) * 16 ≤ _
          omega
        · have h3 : strEq (at1 (bks (atB xs i)) 7) ⟨#[]⟩ = false := by
            have := h3
            rw [Int.toNat_natCast] at this
            exact this
          rw [preA_next xs i (j := 7) (by omega), ← ho, h3, Int.toNat_natCast]
          rfl
        · have h3 : strEq (at1 (bks (atB xs i)) 7) ⟨#[]⟩ = true := by
            have := h3
            rw [Int.toNat_natCast] at this
            exact this
          rw [preA_next xs i (j := 7) (by omega), ← ho, h3]
          exact (List.append_nil _).symm
      · show evP E17 G17 _ (lp17 8) (si17 xs i 8 o) (rkn17 _ _ 5 N 8 _)
        rw [bi17_8, wrap_id (n := (i : Int) + 1) (by omega) (by omega)]
        exact next (by omega) _ (by rw [preA_end (by omega), ← ho])
    · have hi' : i = xs.length := by omega
      have hol := preA_len xs i 0
      rw [← ho] at hol
      have f2 : (srS o).length = o.length := by unfold srS; simp [vlS_len]
      refine br_yes (by omega) (br_yes (by omega) (br_yes ?_ ?_))
      · have f3 : (cpS (srS o)).length ≤ (srS o).length := by
          unfold cpS
          rw [List.length_map]
          have := Lib.compact_length_le (vlS (srS o))
          rw [vlS_len] at this
          exact this
        omega
      · show _ = _
        rw [ho, hi', preA_all, bt_eq, btx_t hb]
  · exact h.elim
end Go.Proofs.YtkjnijddbiconaaDoor.Ev
