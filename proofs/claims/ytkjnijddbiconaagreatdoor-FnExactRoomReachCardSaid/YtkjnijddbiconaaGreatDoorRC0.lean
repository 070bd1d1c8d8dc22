/- The law of RoomReach. -/
import Derived.Test.YtkjnijddbiconaaGreatDoorRM
import Derived.Test.YtkjnijddbiconaaGreatDoorMC
import Derived.Test.YtkjnijddbiconaaGreatDoorEvC
import Derived.Test.YtkjnijddbiconaaGreatDoorShelf
namespace Go.Proofs.YtkjnijddbiconaaGreatDoor.Ev
open Go
set_option linter.unusedVariables false
set_option linter.unusedSimpArgs false
set_option maxRecDepth 100000
set_option maxHeartbeats 1000000
def srI (xs : List (Elem ki)) : List (Elem ki) := ((xs.map fun e => (e.1 : Int)).mergeSort fun x y => decide (x ≤ y)).map fun z => (z, ())
def cpI (xs : List (Elem ki)) : List (Elem ki) := (Lib.compact (xs.map fun e => (e.1 : Int))).map fun z => (z, ())
def E2 : Env := ⟨tt, [1000000, 17, 18, 59, 61, 62, 66, 67, 68, 125], E0.eqs, .skip, []⟩
def kI (xs : List (Elem ki)) (t : Int) : Nat := ln (fun i => decide (atI xs i < t)) xs.length
def addI (xs : List (Elem ki)) (t : Int) : List (Elem ki) := match decide (t < 13) || hasF xs t with
  | true => xs
  | false => xs.take (kI xs t) ++ [(t, ())] ++ xs.drop (kI xs t)
def g125 : G1
  | [.ows 0, .val (.int .i64 t)], [.row [.int .i64] xs], k => br (decide (xs.length ≤ 1048576)) (k ⟨.ows 0, [.row [.int .i64] (addI xs t)], [none]⟩) False
  | _, _, _ => False
def rchS (c : Co) (r : Int) : List (Elem ki) := c.2.2.2.1.foldl (fun o e => addI o e.1) (c.2.1.foldl (fun o e => addI o (hom e).1) (c.2.2.1.foldl (fun o e => addI o e.2.1) (addI [] r)))
def g53 : G1
  | [.agg us, .val (.int .i64 n)], [], k => match coreOf us with
    | some c => br (decide (c.2.1.length + c.2.2.1.length + c.2.2.2.1.length ≤ 1000)) (k ⟨.ows 0, [.row [.int .i64] (rchS c n)], []⟩) False
    | none => False
  | _, _, _ => False
def rch (c : Co) (r : Int) : List (Elem ki) := match coreOk c.1 c.2.1 c.2.2.1 c.2.2.2.1 c.2.2.2.2.2.1 c.2.2.2.2.2.2 with
  | true => rchS c r
  | false => []
def g12 : G1
  | [.agg us, .val (.int .i64 n)], [], k => match coreOf us with
    | some c => br (smB' c) (k ⟨.ows 0, [.row [.int .i64] (rch c n)], []⟩) False
    | none => False
  | _, _, _ => False
def g60 : G1
  | [.val (.int .i64 a)], [], k => k ⟨.val (.bool (decide (a < 13))), [], []⟩
  | _, _, _ => False
def g136 : G1
  | [.rsl [.int .i64] xs, .fn 60 []], [], k => br (decide (xs.length ≤ 1048576)) (k ⟨.val (.int .i64 (fIx xs.length fun i => decide (atI xs i < 13))), [], []⟩) False
  | _, _, _ => False
def g59 : G1
  | [.ows 0, .fn 60 []], [.row [.int .i64] xs], k => br (decide (xs.length ≤ 1048576)) (k ⟨.ows 0, [.row [.int .i64] (xs.filter fun e => !decide ((e.1 : Int) < 13))], [none]⟩) False
  | _, _, _ => False
def g61 : G1
  | [.ows 0], [.row [.int .i64] xs], k => br (decide (xs.length ≤ 1048576)) (k ⟨.val (.tuple #[]), [.row [.int .i64] (srI xs)], [some 0]⟩) False
  | _, _, _ => False
def g62 : G1
  | [.ows 0], [.row [.int .i64] xs], k => br (decide (xs.length ≤ 1048576)) (k ⟨.ows 0, [.row [.int .i64] (cpI xs)], [none]⟩) False
  | _, _, _ => False
theorem ok2 : Ok Tryz.prog E2 := ⟨ttOK, eqsOK, by kernel_rfl⟩
theorem elem_ext {xs ys : List (Elem ki)} (h : xs.map (fun e => (e.1 : Int)) = ys.map fun e => (e.1 : Int)) : xs = ys := by
  have h2 := congrArg (fun l : List Int => l.map fun z => ((z, ()) : Elem ki)) h
  simp only [List.map_map] at h2
  have e : ((fun z : Int => ((z, ()) : Elem ki)) ∘ fun (e : Elem ki) => (e.1 : Int)) = id := by
    funext e
    obtain ⟨z, ⟨⟩⟩ := e
    rfl
  rw [e, List.map_id, List.map_id] at h2
  exact h2
theorem map_elem (zs : List Int) : (zs.map fun z => ((z, ()) : Elem ki)).map (fun e => (e.1 : Int)) = zs := by
  rw [List.map_map]
  exact List.map_id _
abbrev ltI (a b : Int) : Bool := decide (a < b)
theorem ltI_irr (a : Int) : ltI a a = false := decide_eq_false (by omega)
theorem ltI_tr (a b c : Int) (h1 : ltI a b = true) (h2 : ltI b c = true) : ltI a c = true := by
  have h1 := of_decide_eq_true h1
  have h2 := of_decide_eq_true h2
  exact decide_eq_true (by omega)
theorem ltI_tri (a b : Int) : ltI a b = true ∨ a = b ∨ ltI b a = true := by
  rcases Int.lt_trichotomy a b with h | h | h
  · exact .inl (decide_eq_true h)
  · exact .inr (.inl h)
  · exact .inr (.inr (decide_eq_true h))
def vls (xs : List (Elem ki)) : List Int := xs.map fun e => (e.1 : Int)
theorem atI_vls (xs : List (Elem ki)) (i : Nat) : atI xs i = (vls xs).getD i 0 := by
  unfold vls
  rw [List.getD_eq_getElem?_getD, List.getElem?_map]
  show (xs.getD i (edflt ki)).1 = _
  rw [List.getD_eq_getElem?_getD]
  cases xs[i]? <;> rfl
theorem has_mem (xs : List (Elem ki)) (t : Int) : hasF xs t = true ↔ t ∈ vls xs := by
  unfold hasF anyB
  rw [List.any_eq_true]
  constructor
  · rintro ⟨i, hi, h⟩
    have hi : i < xs.length := by simpa using hi
    have h : atI xs i = t := eq_of_beq h
    unfold vls
    rw [List.mem_map]
    refine ⟨xs[i], List.getElem_mem hi, ?_⟩
    rw [← h]
    show _ = (xs.getD i (edflt ki)).1
    rw [List.getD_eq_getElem?_getD, List.getElem?_eq_getElem hi]
    rfl
  · intro h
    unfold vls at h
    obtain ⟨e, he, h⟩ := List.mem_map.1 h
    obtain ⟨i, hi, h2⟩ := List.getElem_of_mem he
    refine ⟨i, by simpa using hi, beq_iff_eq.2 ?_⟩
    show (xs.getD i (edflt ki)).1 = t
    rw [List.getD_eq_getElem?_getD, List.getElem?_eq_getElem hi, h2]
    exact h
theorem addI_ok {xs : List (Elem ki)} (h : Asc ltI (vls xs)) (t : Int) : Asc ltI (vls (addI xs t)) ∧ ∀ a, a ∈ vls (addI xs t) ↔ a ∈ vls xs ∨ (a = t ∧ 13 ≤ t) := by
  unfold addI
  cases hc : decide (t < 13) || hasF xs t with
  | true =>
    refine ⟨h, fun a => ?_⟩
    rw [Bool.or_eq_true, decide_eq_true_eq, has_mem] at hc
    constructor
    · exact .inl
    · rintro (h1 | ⟨rfl, h2⟩)
      · exact h1
      · rcases hc with hc | hc
        · omega
        · exact hc
  | false =>
    rw [Bool.or_eq_false_iff, decide_eq_false_iff_not] at hc
    have hn : t ∉ vls xs := fun hm => by rw [(has_mem xs t).2 hm] at hc; cases hc.2
    have hk : kI xs t = ln (fun i => ltI ((vls xs).getD i 0) t) (vls xs).length := by
      unfold kI
      rw [show (vls xs).length = xs.length by unfold vls; rw [List.length_map]]
      exact ln_congr fun i _ => by rw [atI_vls]
    have e : vls (xs.take (kI xs t) ++ [(t, ())] ++ xs.drop (kI xs t)) = (vls xs).take (kI xs t) ++ [t] ++ (vls xs).drop (kI xs t) := by
      unfold vls
      simp only [List.map_append, List.map_take, List.map_drop, List.map_cons, List.map_nil]
    show Asc ltI (vls (xs.take (kI xs t) ++ [(t, ())] ++ xs.drop (kI xs t))) ∧ ∀ a, a ∈ vls (xs.take (kI xs t) ++ [(t, ())] ++ xs.drop (kI xs t)) ↔ _
    rw [e]
    refine ⟨by rw [hk]; exact ins_ok ltI ltI_irr ltI_tr ltI_tri 0 h hn, fun a => ?_⟩
    rw [ins_mem (d := 0)]
    constructor
    · rintro (h1 | h1)
      · exact .inr ⟨h1, by omega⟩
      · exact .inl h1
    · rintro (h1 | h1)
      · exact .inr h1
      · exact .inl h1.1
theorem addI_len (xs : List (Elem ki)) (t : Int) : (addI xs t).length ≤ xs.length + 1 := by
  unfold addI
  split
  · omega
  · simp only [List.length_append, List.length_cons, List.length_nil, List.length_take, List.length_drop]
    omega
theorem fold_len {β : Type} (g : β → Int) : ∀ (l : List β) (o : List (Elem ki)), (l.foldl (fun o e => addI o (g e)) o).length ≤ o.length + l.length
  | [], o => Nat.le_refl _
  | e :: l, o => by
    have h1 := fold_len g l (addI o (g e))
    have h2 := addI_len o (g e)
    simp only [List.foldl_cons, List.length_cons]
    omega
theorem fold_ok {β : Type} (g : β → Int) : ∀ (l : List β) (o : List (Elem ki)), Asc ltI (vls o) → Asc ltI (vls (l.foldl (fun o e => addI o (g e)) o)) ∧ ∀ a, a ∈ vls (l.foldl (fun o e => addI o (g e)) o) ↔ a ∈ vls o ∨ (13 ≤ a ∧ a ∈ l.map g)
  | [], o, h => ⟨h, fun a => by simp⟩
  | e :: l, o, h => by
    obtain ⟨h1, h2⟩ := addI_ok h (g e)
    obtain ⟨h3, h4⟩ := fold_ok g l (addI o (g e)) h1
    refine ⟨h3, fun a => ?_⟩
    show a ∈ vls (l.foldl (fun o e => addI o (g e)) (addI o (g e))) ↔ _
    rw [h4, h2, List.map_cons, List.mem_cons]
    constructor
    · rintro ((h | ⟨h, g⟩) | ⟨h, g⟩)
      · exact .inl h
      · exact .inr ⟨by omega, .inl h⟩
      · exact .inr ⟨h, .inr g⟩
    · rintro (h | ⟨h, g | g⟩)
      · exact .inl (.inl h)
      · exact .inl (.inr ⟨g, by omega⟩)
      · exact .inr ⟨h, g⟩
theorem fold_next {β : Type} (g : β → Int) (l : List β) (dd : β) (o : List (Elem ki)) {i : Nat} (hi : i < l.length) : (l.take (i + 1)).foldl (fun o e => addI o (g e)) o = addI ((l.take i).foldl (fun o e => addI o (g e)) o) (g (l.getD i dd)) := by
  rw [take_next l dd hi, List.foldl_append]
  rfl
def ats (s : List (Elem kc)) (d p : List (Elem k3)) (r : Int) : List (Elem ki) := [(r, ())] ++ d.map (fun e => (e.2.1, ())) ++ s.map (fun e => ((hom e).1, ())) ++ p.map fun e => (e.1, ())
theorem srt_asc (zs : List Int) : (zs.mergeSort fun x y => decide (x ≤ y)).Pairwise fun a b => ltI b a = false :=
  (List.pairwise_mergeSort (le := fun (x y : Int) => decide (x ≤ y)) (fun a b c h1 h2 => decide_eq_true (Int.le_trans (of_decide_eq_true h1) (of_decide_eq_true h2))) (fun a b => by
    rw [Bool.or_eq_true, decide_eq_true_eq, decide_eq_true_eq]
    omega) zs).imp fun {a b} h => decide_eq_false (by
    have := of_decide_eq_true h
    omega)
/-- What is gathered, put in order and made one each is what is put in one by one. -/
theorem rch_eq (x : Int) (s : List (Elem kc)) (d p : List (Elem k3)) (b : Bool) (f : List (Elem ki)) (n r : Int) : cpI (srI ((ats s d p r).filter fun e => !decide ((e.1 : Int) < 13))) = rchS (x, s, d, p, b, f, n) r := by
  have h0 := addI_ok (xs := []) (by unfold vls Asc; simp) r
  have h1 := fold_ok (fun e : Elem k3 => (e.2.1 : Int)) d (addI [] r) h0.1
  have h2 := fold_ok (fun e : Elem kc => ((hom e).1 : Int)) s _ h1.1
  have h3 := fold_ok (fun e : Elem k3 => (e.1 : Int)) p _ h2.1
  refine elem_ext (asc_ext ltI ltI_irr ltI_tr _ _ ?_ h3.1 fun a => ?_)
  all_goals
    unfold cpI
    rw [map_elem]
  · refine (compact_ok ltI ltI_irr ltI_tr ltI_tri _ ?_).1
    unfold srI
    rw [map_elem]
    exact srt_asc _
  · have hS : (vls (srI ((ats s d p r).filter fun e => !decide ((e.1 : Int) < 13)))).Pairwise fun a b => ltI b a = false := by
      unfold srI vls
      rw [map_elem]
      exact srt_asc _
    refine ((compact_ok ltI ltI_irr ltI_tr ltI_tri _ hS).2 a).trans ?_
    unfold srI vls
    rw [map_elem, List.mem_mergeSort]
    refine Iff.trans ?_ (h3.2 a).symm
    rw [h2.2, h1.2, h0.2]
    have key : a ∈ ((ats s d p r).filter fun e => !decide ((e.1 : Int) < 13)).map (fun e => (e.1 : Int)) ↔ 13 ≤ a ∧ a ∈ (ats s d p r).map fun e => (e.1 : Int) := by
      simp only [List.mem_map, List.mem_filter]
      constructor
      · rintro ⟨e, ⟨h1, h2⟩, rfl⟩
        exact ⟨by simpa using h2, e, h1, rfl⟩
      · rintro ⟨h1, e, h2, rfl⟩
        exact ⟨e, ⟨h2, by simpa using h1⟩, rfl⟩
    rw [key]
    unfold ats
    simp only [List.map_append, List.map_cons, List.map_nil, List.map_map, List.mem_append, List.mem_singleton]
    have c1 : ((fun e : Elem ki => (e.1 : Int)) ∘ fun (e : Elem k3) => ((e.2.1, ()) : Elem ki)) = fun e : Elem k3 => (e.2.1 : Int) := rfl
    have c2 : ((fun e : Elem ki => (e.1 : Int)) ∘ fun (e : Elem kc) => (((hom e).1, ()) : Elem ki)) = fun e : Elem kc => ((hom e).1 : Int) := rfl
    have c3 : ((fun e : Elem ki => (e.1 : Int)) ∘ fun (e : Elem k3) => ((e.1, ()) : Elem ki)) = fun e : Elem k3 => (e.1 : Int) := rfl
    rw [c1, c2, c3]
    have hv : ¬ a ∈ vls [] := by simp [vls]
    constructor
    · rintro ⟨h, ((g | g) | g) | g⟩
      · exact .inl (.inl (.inl (.inr ⟨g, by omega⟩)))
      · exact .inl (.inl (.inr ⟨h, g⟩))
      · exact .inl (.inr ⟨h, g⟩)
      · exact .inr ⟨h, g⟩
    · rintro ((((g | ⟨g, h⟩) | ⟨h, g⟩) | ⟨h, g⟩) | ⟨h, g⟩)
      · exact absurd g hv
      · exact ⟨by omega, .inl (.inl (.inl g))⟩
      · exact ⟨h, .inl (.inl (.inr g))⟩
      · exact ⟨h, .inl (.inr g)⟩
      · exact ⟨h, .inr g⟩
end Go.Proofs.YtkjnijddbiconaaGreatDoor.Ev
