/- slices.Insert at a struct of three ints: what it promises. -/
import Derived.Test.YtkjnijddbiconaaQ7
namespace Go.Proofs.Ytkjnijddbiconaa.Ev
open Go Go.Lib Go.Sort
set_option linter.unusedVariables false
set_option linter.unusedSimpArgs false
theorem zc3 (n : Nat) : (Builtin.zeroCells vE0.cells n).toList.length = n * 3 := by
  rw [Array.length_toList, size_zeroCells]
  rfl
theorem ins_flat (xs : List (Elem kq)) (e : Elem kq) (i : Nat) : flat kq (xs.take i ++ e :: xs.drop i) = (flat kq xs).take (i * 3) ++ (flat kq [e] ++ (flat kq xs).drop (i * 3)) := by
  rw [flat_append, flat_cons, flat_take, flat_drop]
  simp [flat]
/-- What stands behind the two copies: in its own block. -/
theorem ins_own (L cs vs : List Value) (n i : Nat) (hi : i ≤ n) (hc : cs.length = n * 3) (hv : vs.length = 3) (hL : (n + 1) * 3 ≤ L.length) (ht : L.take (n * 3) = cs) :
    (((L.take ((i + 1) * 3) ++ (cs.drop (i * 3) ++ L.drop ((i + 1) * 3 + (cs.drop (i * 3)).length))).take (i * 3)) ++ (vs ++ (L.take ((i + 1) * 3) ++ (cs.drop (i * 3) ++ L.drop ((i + 1) * 3 + (cs.drop (i * 3)).length))).drop (i * 3 + vs.length))).take ((n + 1) * 3) = cs.take (i * 3) ++ (vs ++ cs.drop (i * 3)) := by
  have e1 : (L.take ((i + 1) * 3)).length = (i + 1) * 3 := by rw [List.length_take]; omega
  have e2 : L.take (i * 3) = cs.take (i * 3) := by rw [← ht, List.take_take, Nat.min_eq_left (by omega)]
  have e4 : ∀ X, (L.take ((i + 1) * 3) ++ X).take (i * 3) = cs.take (i * 3) := fun X => by rw [List.take_append_of_le_length (by omega), List.take_take, Nat.min_eq_left (by omega), e2]
  have e5 : ∀ X, (L.take ((i + 1) * 3) ++ X).drop (i * 3 + vs.length) = X := fun X => by rw [List.drop_left' (by omega)]
  rw [e4, e5]
  have e3 : (cs.take (i * 3) ++ (vs ++ cs.drop (i * 3))).length = (n + 1) * 3 := by
    rw [List.length_append, List.length_append, List.length_take, List.length_drop, hc, hv]
    omega
  rw [← e3]
  have : cs.take (i * 3) ++ (vs ++ (cs.drop (i * 3) ++ L.drop ((i + 1) * 3 + (cs.drop (i * 3)).length))) = (cs.take (i * 3) ++ (vs ++ cs.drop (i * 3))) ++ L.drop ((i + 1) * 3 + (cs.drop (i * 3)).length) := by simp
  rw [this, List.take_left]
/-- .. and in a new one. -/
theorem ins_new (L cs vs Z : List Value) (n i : Nat) (hi : i ≤ n) (hc : cs.length = n * 3) (hv : vs.length = 3) (hL : (n + 1) * 3 ≤ L.length) (ht : L = cs.take (i * 3) ++ Z) :
    ((L.take (i * 3) ++ (vs ++ L.drop (i * 3 + vs.length))).take ((i + 1) * 3) ++ (cs.drop (i * 3) ++ (L.take (i * 3) ++ (vs ++ L.drop (i * 3 + vs.length))).drop ((i + 1) * 3 + (cs.drop (i * 3)).length))).take ((n + 1) * 3) = cs.take (i * 3) ++ (vs ++ cs.drop (i * 3)) := by
  have e0 : (cs.take (i * 3)).length = i * 3 := by rw [List.length_take, hc]; omega
  have e2 : L.take (i * 3) = cs.take (i * 3) := by rw [ht, List.take_left' e0]
  rw [e2]
  have e1 : (cs.take (i * 3) ++ vs).length = (i + 1) * 3 := by rw [List.length_append, e0, hv]; omega
  have e4 : (cs.take (i * 3) ++ (vs ++ L.drop (i * 3 + vs.length))).take ((i + 1) * 3) = cs.take (i * 3) ++ vs := by rw [← List.append_assoc, List.take_left' e1]
  rw [e4]
  generalize (cs.take (i * 3) ++ (vs ++ L.drop (i * 3 + vs.length))).drop ((i + 1) * 3 + (cs.drop (i * 3)).length) = R
  have e3 : (cs.take (i * 3) ++ (vs ++ cs.drop (i * 3))).length = (n + 1) * 3 := by
    rw [List.length_append, List.length_append, List.length_take, List.length_drop, hc, hv]
    omega
  rw [← e3]
  have : cs.take (i * 3) ++ vs ++ (cs.drop (i * 3) ++ R) = (cs.take (i * 3) ++ (vs ++ cs.drop (i * 3))) ++ R := by simp
  rw [this, List.take_left]
theorem q36 (xs : List (Elem kq)) (e : Elem kq) (i : Nat) (hi : i ≤ xs.length) (hl : xs.length ≤ 1048576) : Ctr Try.prog 36 [.ows 0, .val (.int .i64 i), .ows 1] [.row kq xs, .row kq [e]] ⟨.ows 0, [.row kq (xs.take i ++ e :: xs.drop i)], [none, none]⟩ := by
  obtain ⟨c, hc⟩ := Option.isSome_iff_exists.1 (show Try.f36.body.isSome = true by kernel_rfl)
  intro S π w vs hR oi hπ o a K Q hk
  obtain ⟨v, vs', rfl, hv, h2⟩ := hR.uncons
  obtain ⟨v1, vs2, rfl, hv1, h3⟩ := h2.uncons
  obtain ⟨v2, vs3, rfl, hv2, h4⟩ := h3.uncons
  have : vs3 = [] := List.eq_nil_of_length_eq_zero (by have := h4.1; simpa using this.symm)
  subst this
  cases hv1
  rw [run_callFunc Try.func36 hc (by kernel_rfl)]
  show Calls Try.prog 36 #[v, _, _] w _
  have fl : (flat kq xs).length = xs.length * 3 := flat_length kq xs
  have fe : (flat kq [e]).length = 1 * 3 := flat_length kq [e]
  have hyl : (xs.take i ++ e :: xs.drop i).length = xs.length + 1 := by simp; omega
  have hfy : (flat kq (xs.take i ++ e :: xs.drop i)).length = (xs.length + 1) * 3 := by rw [flat_length, hyl]; rfl
  have noouts : ∀ (i q : Nat), ([none, none] : List (Option Nat))[i]? ≠ some (some q) := fun i q hq => by rcases i with _ | _ | i <;> simp at hq
  obtain ⟨k0, hk0, hx, hun, hre⟩ := oi.ok 0 (.row kq xs) rfl
  obtain ⟨k1, hk1, hx1, hun1, hre1⟩ := oi.ok 1 (.row kq [e]) rfl
  generalize hz1 : (1 : Nat) = z1 at hv2
  cases hv2 with
  | ows0 _ k x hk' hr hn' =>
    subst hz1
    rw [hk'] at hk1
    obtain rfl := Option.some.inj hk1
    exact absurd (hun1 hr) (by simp)
  | ows _ kv cv hkv hrv hv1 hv2 =>
    subst hz1
    rw [hkv] at hk1
    obtain rfl := Option.some.inj hk1
    obtain ⟨hmv, vcur, ve, hvb, hvsz, hvt⟩ := hre1 hrv
    have hvs := fun j v hj => cell_of hvb hvt j v hj
    have hvn : kv.n = 1 := hx1.symm
    rw [hvn]
    cases hv with
    | ows _ k cap hk' hr h1 h2 =>
      rw [hk'] at hk0
      obtain rfl := Option.some.inj hk0
      obtain ⟨hm, cur, te, hb', hsz, ht⟩ := hre hr
      have hm : k.m = 3 := hm.symm
      rw [hm] at h2
      have hsep := oi.sep 0 _ k rfl hk' hr
      have hne : kv.b ≠ k.b := fun e => by
        have := oi.inj 1 0 _ _ kv k rfl rfl hkv hk' hrv hr e
        omega
      have hcs := fun j v hj => cell_of hb' ht j v hj
      have h0 : ∀ b, some k.b = some b → S b = none := fun b hb => by obtain rfl := Option.some.inj hb; exact hsep
      rw [← hx] at h1 ⊢
      by_cases hroom : xs.length + 1 ≤ cap
      · have hcur : (xs.length + 1) * 3 ≤ cur.size := by omega
        by_cases hin : i < xs.length
        · refine Calls.mono (ins_shift k.b 0 xs.length cap i kv.b 0 1 cv (flat kq xs) (flat kq [e]) w hin (by omega) hroom (by omega) hne fl fe hcs (fun j hj => some_of hb' _ (by omega)) (fun j hj => fz_of hb' _) hvs (flat_one xs) (flat_one [e])
            ve te vcur.size cur.size (shape_of hvb) (shape_of hb') (by omega) (fz_of hvb _) (fz_of hvb _)) fun e' w' ⟨he, hw⟩ => ?_
          subst he
          subst hw
          refine hk _ _ (nu_out ((((nu_refl hb').drew).put _ _).put _ _) oi.st h0 oi.tab hyl.symm (by omega) ?_ ?_ [none, none] noouts π)
          · rw [putL_size, putL_size]; show cap * 3 ≤ cur.size; omega
          · rw [hfy, putL_list _ _ _ (by rw [putL_size, fe]; omega), putL_list _ _ _ (by rw [List.length_drop, fl]; omega), Nat.zero_add, Nat.zero_add, ins_flat]
            exact ins_own cur.toList (flat kq xs) (flat kq [e]) xs.length i hi fl fe (by rw [Array.length_toList]; exact hcur) (by rw [← fl]; exact ht)
        · have hin : i = xs.length := by omega
          subst hin
          refine Calls.mono (ins_room k.b 0 xs.length cap kv.b 0 1 cv (flat kq [e]) w (by omega) hroom fe (fun j hj => some_of hb' _ (by omega)) (fun j hj => fz_of hb' _) hvs (flat_one [e])) fun e' w' ⟨he, hw⟩ => ?_
          subst he
          subst hw
          refine hk _ _ (nu_out ((nu_refl hb').put _ _) oi.st h0 oi.tab hyl.symm (by omega) ?_ ?_ [none, none] noouts π)
          · rw [putL_size]; show cap * 3 ≤ cur.size; omega
          · rw [hfy, putL_list _ _ _ (by rw [fe]; omega), Nat.zero_add, ins_flat, fe, ← fl, ht, ← List.append_assoc, ← List.append_assoc, List.take_left' (by rw [List.length_append, fe, fl]; omega), List.take_length, List.drop_length, List.append_nil]
      · have hcap : cap = xs.length := by omega
        have hG := grownCap_ge w (xs.length + 1) cap 42
        by_cases hin : i < xs.length
        · refine Calls.mono (ins_grow k.b 0 xs.length cap i kv.b 0 1 cv (flat kq xs) (flat kq [e]) w hin (by omega) (by omega) (by omega) (by omega) fl fe hcs hvs (flat_one xs) (flat_one [e])) fun e' w' ⟨he, hw⟩ => ?_
          subst he
          subst hw
          have hZ : ((flat kq xs).take (i * 3)).toArray ++ Builtin.zeroCells vE0.cells (xs.length + 1 - i) ++ Builtin.zeroCells vE0.cells (grownCap w (xs.length + 1) cap 42 - (xs.length + 1)) =
            ((flat kq xs).take (i * 3) ++ ((Builtin.zeroCells vE0.cells (xs.length + 1 - i)).toList ++ (Builtin.zeroCells vE0.cells (grownCap w (xs.length + 1) cap 42 - (xs.length + 1))).toList)).toArray := by
            apply Array.ext'
            simp
          rw [hZ]
          generalize hZ' : (Builtin.zeroCells vE0.cells (xs.length + 1 - i)).toList ++ (Builtin.zeroCells vE0.cells (grownCap w (xs.length + 1) cap 42 - (xs.length + 1))).toList = Z
          have hZl : Z.length = (xs.length + 1 - i) * 3 + (grownCap w (xs.length + 1) cap 42 - (xs.length + 1)) * 3 := by rw [← hZ', List.length_append, zc3, zc3]
          have hRs : ((flat kq xs).take (i * 3) ++ Z).toArray.size = grownCap w (xs.length + 1) cap 42 * 3 := by
            rw [List.size_toArray, List.length_append, List.length_take, fl, hZl]
            omega
          refine hk _ _ (nu_out ((((nu_alloc w (some k.b) _ _).drew.put _ _).drew).put _ _) oi.st h0 oi.tab hyl.symm (by omega) ?_ ?_ [none, none] noouts π)
          · rw [putL_size, putL_size, hRs]; exact Nat.le_refl _
          · rw [hfy, putL_list _ _ _ (by rw [putL_size, hRs, List.length_drop, fl]; omega), putL_list _ _ _ (by rw [hRs, fe]; omega), ins_flat]
            exact ins_new _ (flat kq xs) (flat kq [e]) Z xs.length i hi fl fe (by rw [List.size_toArray] at hRs; show (xs.length + 1) * 3 ≤ ((flat kq xs).take (i * 3) ++ Z).length; omega) rfl
        · have hin : i = xs.length := by omega
          subst hin
          refine Calls.mono (ins_end (some ⟨k.b, 0, none⟩) xs.length cap kv.b 0 1 cv (flat kq xs) (flat kq [e]) w (by omega) (by omega) (by omega) (by omega) fl fe (fun h => by cases h) (fun a ha j v hj => by cases ha; rw [Addr.add_lit]; exact hcs j v hj) hvs (flat_one [e])) fun e' w' ⟨he, hw⟩ => ?_
          subst he
          subst hw
          refine hk _ _ (nu_out (Nu.from (nu_alloc w.drew (some k.b) _ _)) oi.st h0 oi.tab hyl.symm (by omega) ?_ ?_ [none, none] noouts π)
          · rw [Array.size_append, size_zeroCells, List.size_toArray, List.length_append, fl, fe]
            show _ * 3 ≤ _ + (_ - _) * 3
            omega
          · rw [hfy, Array.toList_append, List.take_left' (by simp [fl, fe]; omega), ins_flat, ← fl, List.take_length, List.drop_length, List.append_nil]
    | ows0 _ k x hk' hr hn' =>
      rw [hk'] at hk0
      obtain rfl := Option.some.inj hk0
      have hx0 := hun hr
      subst hx0
      have hi0 : i = 0 := by simpa using hi
      subst hi0
      have hG := grownCap_ge w (0 + 1) 0 42
      refine Calls.mono (ins_end x 0 0 kv.b 0 1 cv [] (flat kq [e]) w (by omega) (by omega) (by omega) (by omega) rfl fe (fun h => rfl) (fun a ha j v hj => by simp at hj) hvs (flat_one [e])) fun e' w' ⟨he, hw⟩ => ?_
      subst he
      subst hw
      refine hk _ _ (nu_out (n := 0 + 1) (cap := grownCap w (0 + 1) 0 42) (cs := kq) (ys := [e]) (Nu.from (nu_alloc w.drew none _ _)) oi.st (fun b hb => by cases hb) oi.tab rfl (by simpa using hG) ?_ ?_ [none, none] noouts π)
      · rw [Array.size_append, size_zeroCells, List.size_toArray, List.length_append, fe]
        show _ * 3 ≤ _ + (_ - _) * 3
        simp
        omega
      · rw [Array.toList_append, List.take_left' (by rfl)]
        rfl
end Go.Proofs.Ytkjnijddbiconaa.Ev
