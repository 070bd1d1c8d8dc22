/- slices.Clone, slices.Delete, slices.Insert at a struct of three ints: what they promise. -/
import Derived.Test.YtkjnijddbiconaaQ6
namespace Go.Proofs.Ytkjnijddbiconaa.Ev
open Go Go.Lib Go.Sort
set_option linter.unusedVariables false
set_option linter.unusedSimpArgs false
def ints (xs : List (Elem kq)) : List Int := xs.flatMap fun e => [e.1, e.2.1, e.2.2.1]
theorem flat_ints : ∀ xs : List (Elem kq), flat kq xs = (ints xs).map encZ
  | [] => rfl
  | x :: xs => by
    rw [flat_cons, flat_ints xs]
    rfl
theorem flat_one (xs : List (Elem kq)) : ∀ v ∈ flat kq xs, v.oneCell' = true := by
  intro v hv
  rw [flat_ints] at hv
  obtain ⟨x, _, rfl⟩ := List.mem_map.1 hv
  rfl
theorem cell_of {w : World} {b : Nat} {cur : Array Value} {e : TypeId} {l : List Value} (hb : w.heap[b]? = some (.cells cur e (0, 0))) (h : cur.toList.take l.length = l) (j : Nat) (v : Value) (hj : l[j]? = some v) : w.cell? ⟨b, 0 + j, none⟩ = some v := by
  have hlt := (List.getElem?_eq_some_iff.1 hj).1
  have h1 := congrArg (fun m : List Value => m[j]?) h
  simp only [List.getElem?_take, if_pos hlt, Array.getElem?_toList] at h1
  rw [hj] at h1
  simp [World.cell?, hb, h1]
theorem some_of {w : World} {b : Nat} {cur : Array Value} {e : TypeId} (hb : w.heap[b]? = some (.cells cur e (0, 0))) (j : Nat) (hj : j < cur.size) : (w.cell? ⟨b, j, none⟩).isSome = true := by
  simp [World.cell?, hb, hj]
theorem fz_of {w : World} {b : Nat} {cur : Array Value} {e : TypeId} (hb : w.heap[b]? = some (.cells cur e (0, 0))) (j : Nat) : w.frozen? ⟨b, j, none⟩ = false := by
  simp [World.frozen?, hb]
theorem shape_of {w : World} {b : Nat} {cur : Array Value} {e : TypeId} (hb : w.heap[b]? = some (.cells cur e (0, 0))) : w.shape? b = some (e, cur.size) := by
  simp [World.shape?, hb]
theorem q34 (xs : List (Elem kq)) (hl : xs.length ≤ 1048576) : Ctr Try.prog 34 [.rsl kq xs] [] ⟨.ows 0, [.row kq xs], []⟩ := by
  obtain ⟨c, hc⟩ := Option.isSome_iff_exists.1 (show Try.f34.body.isSome = true by kernel_rfl)
  intro S π w vs hR oi hπ o a K Q hk
  obtain ⟨v, vs', rfl, hv, h2⟩ := hR.uncons
  have : vs' = [] := List.eq_nil_of_length_eq_zero (by have := h2.1; simpa using this.symm)
  subst this
  rw [run_callFunc Try.func34 hc (by kernel_rfl)]
  show Calls Try.prog 34 #[v] w _
  have fl : (flat kq xs).length = xs.length * 3 := flat_length kq xs
  cases hv with
  | rsl _ _ A cap hcap h =>
    cases A with
    | none =>
      have hx : xs = [] := by
        cases xs with
        | nil => rfl
        | cons x xs =>
          obtain ⟨a, ha, _⟩ := h 0 (encZ x.1) (by rw [flat_ints]; rfl)
          cases ha
      subst hx
      refine Calls.mono (clone3_nil 0 cap w) fun e' w' ⟨he, hw⟩ => ?_
      subst he
      subst hw
      exact hk _ _ ⟨oneB ⟨0, 0, 0, 0, false⟩, .ows0 0 ⟨0, 0, 0, 0, false⟩ none rfl rfl rfl, oi_one rfl (fun _ => rfl) (fun h => by cases h) oi.st (fun h => by cases h) oi.tab, .refl _, fun q hq => oneB_ne hq, fun i q hq => by simp at hq⟩
    | some a =>
      have hcell : ∀ j u, (flat kq xs)[j]? = some u → w.cell? (a.add j) = some u := fun j u hu => by
        obtain ⟨a', ha, hcs⟩ := h j u hu
        cases ha
        exact cellS_world oi.st hcs
      refine Calls.mono (clone3 a xs.length cap (flat kq xs) w fl (by unfold maxLen; omega) (by omega) hcell (flat_one xs)) fun e' w' ⟨v', he, own, hne, bel⟩ => ?_
      subst he
      obtain ⟨_, own⟩ := own
      rcases own with ⟨hv', _⟩ | ⟨g, cap', cur, hv', hg, hheap, h1, h2, h3, h4⟩
      · exact absurd hv' hne
      · subst hv'
        have hst : ∀ b x, S b = some x → w'.heap[b]? = some x := fun b x hx => by
          have h0 := oi.st b x hx
          rw [bel.block b (Array.getElem?_eq_some_iff.1 h0).1, h0]
        have hsep : S g = none := by
          cases hx : S g with
          | none => rfl
          | some x =>
            have hlt := (Array.getElem?_eq_some_iff.1 (oi.st g x hx)).1
            omega
        exact hk _ _ ⟨oneB ⟨g, xs.length, 3, cur.size, true⟩, .ows 0 ⟨g, xs.length, 3, cur.size, true⟩ cap' rfl rfl h1 (Nat.le_of_eq h3.symm), oi_one rfl (fun h => by cases h) (fun _ => ⟨rfl, cur, _, hheap, rfl, by rw [fl]; exact h4⟩) hst (fun _ => hsep) oi.tab, ⟨bel.os, bel.tape, bel.output, bel.size⟩, fun q hq => oneB_ne hq, fun i q hq => by simp at hq⟩
theorem q35 (xs : List (Elem kq)) (i : Nat) (hi : i < xs.length) (j : Int) (hj : j = ((i + 1 : Nat) : Int)) : Ctr Try.prog 35 [.ows 0, .val (.int .i64 i), .val (.int .i64 j)] [.row kq xs] ⟨.ows 0, [.row kq (xs.take i ++ xs.drop (i + 1))], [none]⟩ := by
  subst hj
  obtain ⟨c, hc⟩ := Option.isSome_iff_exists.1 (show Try.f35.body.isSome = true by kernel_rfl)
  intro S π w vs hR oi hπ o a K Q hk
  obtain ⟨v, vs', rfl, hv, h2⟩ := hR.uncons
  obtain ⟨v1, vs2, rfl, hv1, h3⟩ := h2.uncons
  obtain ⟨v2, vs3, rfl, hv2, h4⟩ := h3.uncons
  have : vs3 = [] := List.eq_nil_of_length_eq_zero (by have := h4.1; simpa using this.symm)
  subst this
  cases hv1
  cases hv2
  rw [run_callFunc Try.func35 hc (by kernel_rfl)]
  show Calls Try.prog 35 #[v, _, _] w _
  have fl : (flat kq xs).length = xs.length * 3 := flat_length kq xs
  have il : (ints xs).length = xs.length * 3 := by rw [← fl, flat_ints, List.length_map]
  obtain ⟨k0, hk0, hx, hun, hre⟩ := oi.ok 0 (.row kq xs) rfl
  cases hv with
  | ows _ k cap hk' hr h1 h2 =>
    rw [hk'] at hk0
    obtain rfl := Option.some.inj hk0
    obtain ⟨hm, cur, e, hb', hsz, ht⟩ := hre hr
    have hm : k.m = 3 := hm.symm
    have hsep := oi.sep 0 _ k rfl hk' hr
    rw [hm] at h2
    have ht' : cur.toList.take (ints xs).toArray.size = (ints xs).toArray.toList.map encZ := by
      rw [flat_ints, List.length_map] at ht
      exact ht
    rw [← hx]
    refine Calls.mono (del3 k.b i (i + 1) xs.length cap (ints xs).toArray w (holds_of encZ hb' ht') (by simpa using il) (by omega) rfl (by omega)) fun e' w' ⟨he, q, hw⟩ => ?_
    subst he
    subst hw
    have hd : ((ints xs).take (i * 3) ++ (ints xs).drop ((i + 1) * 3) ++ [0, 0, 0]).toArray.size = xs.length * 3 := by
      simp only [List.size_toArray, List.length_append, List.length_take, List.length_drop, il, List.length_cons, List.length_nil]
      omega
    have alt := alt_put (n := q) encZ ((ints xs).take (i * 3) ++ (ints xs).drop ((i + 1) * 3) ++ [0, 0, 0]).toArray #[] hb'
    have hp := put_cells encZ ((ints xs).take (i * 3) ++ (ints xs).drop ((i + 1) * 3) ++ [0, 0, 0]).toArray cur (by rw [hd]; omega)
    have hgrow : ∀ W : World, grow W #[] = W := fun W => by
      show ({ W with heap := W.heap ++ #[] } : World) = W
      rw [Array.append_empty]
    rw [hgrow] at alt
    have hfl : flat kq (xs.take i ++ xs.drop (i + 1)) = ((ints xs).take (i * 3) ++ (ints xs).drop ((i + 1) * 3)).map encZ := by
      rw [flat_append, flat_take, flat_drop, flat_ints, List.map_append, List.map_take, List.map_drop]
      rfl
    have h3 : (putCells encZ 0 ((ints xs).take (i * 3) ++ (ints xs).drop ((i + 1) * 3) ++ [0, 0, 0]).toArray cur).toList.take (flat kq (xs.take i ++ xs.drop (i + 1))).length = flat kq (xs.take i ++ xs.drop (i + 1)) := by
      have h5 := congrArg (List.take (flat kq (xs.take i ++ xs.drop (i + 1))).length) hp.2
      have h6 : (flat kq (xs.take i ++ xs.drop (i + 1))).length ≤ xs.length * 3 := by
        rw [hfl, List.length_map, List.length_append, List.length_take, List.length_drop, il]
        omega
      rw [List.take_take, Nat.min_eq_left (by rw [hd]; exact h6)] at h5
      rw [h5]
      rw [hfl]
      have h7 : ∀ p : List Int, List.take (p.map encZ).length (List.map encZ (p ++ [0, 0, 0])) = p.map encZ := fun p => by rw [List.map_append, List.take_left]
      exact h7 _
    exact hk _ _ (nu_out (b0 := some k.b) ⟨alt.tl, alt.at_, fun b' x hb hx => alt.fr b' x (fun e => hb (by rw [e])) hx, .inl rfl⟩ oi.st (fun b hb => by obtain rfl := Option.some.inj hb; exact hsep) oi.tab
      (by rw [List.length_append, List.length_take, List.length_drop]; omega) (by rw [List.length_append, List.length_take, List.length_drop]; omega) (by rw [hp.1]; show cap * 3 ≤ cur.size; omega) h3 [none] (fun i q hq => by cases i <;> simp at hq) π)
  | ows0 _ k x hk' hr hn' =>
    rw [hk'] at hk0
    obtain rfl := Option.some.inj hk0
    have hx0 := hun hr
    subst hx0
    simp at hi
end Go.Proofs.Ytkjnijddbiconaa.Ev
