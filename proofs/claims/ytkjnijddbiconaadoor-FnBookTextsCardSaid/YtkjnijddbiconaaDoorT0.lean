/- The law of BookTexts: texts put in order. -/
import Derived.Test.YtkjnijddbiconaaDoorD15
import Derived.Test.YtkjnijddbiconaaDoorEvC
import Derived.Test.YtkjnijddbiconaaDoorShelf
import Derived.Sort.Walk0
namespace Go.Proofs.YtkjnijddbiconaaDoor.Ev
open Go
set_option linter.unusedVariables false
set_option linter.unusedSimpArgs false
set_option maxRecDepth 100000
set_option maxHeartbeats 1000000
def vlS (xs : List (Elem ks)) : List (List UInt8) := xs.map fun e => e.1.data.toList
def uS (l : List UInt8) : Elem ks := (⟨l.toArray⟩, ())
def srS (xs : List (Elem ks)) : List (Elem ks) := ((vlS xs).mergeSort fun x y => decide (x ≤ y)).map uS
def cpS (xs : List (Elem ks)) : List (Elem ks) := (Lib.compact (vlS xs)).map uS
def E3 : Env := ⟨tt, [1000000, 29, 34, 35, 58, 127, 85, 83, 123, 124, 125, 126, 57, 37, 42, 39, 40, 41], E0.eqs, .skip, []⟩
def kS (xs : List (Elem ks)) (t : ByteArray) : Nat := ln (fun i => strLt (at1 xs i) t) xs.length
def addS (xs : List (Elem ks)) (t : ByteArray) : List (Elem ks) := match decide (kS xs t < xs.length) && strEq (at1 xs (kS xs t)) t with
  | true => xs
  | false => xs.take (kS xs t) ++ [(t, ())] ++ xs.drop (kS xs t)
def putS (o : List (Elem ks)) (t : ByteArray) : List (Elem ks) := match strEq t ⟨#[]⟩ with
  | true => o
  | false => addS o t
def btxS (xs : List (Elem kb)) : List (Elem ks) := (xs.flatMap bks).foldl (fun o u => putS o u.1) []
def btx (xs : List (Elem kb)) : List (Elem ks) := match bookOk xs with
  | true => btxS xs
  | false => []
def g42 : G1
  | [.ows 0, .val (.string t)], [.row [.str] xs], k => br (decide (xs.length ≤ 1048576)) (k ⟨.ows 0, [.row [.str] (addS xs t)], [none]⟩) False
  | _, _, _ => False
def g18 : G1
  | [.agg [.rsl [.str, .int .i64, .str, .str, .str, .str, .str, .str, .str, .str, .str] xs]], [], k => br (smB xs) (k ⟨.ows 0, [.row [.str] (btx xs)], []⟩) False
  | _, _, _ => False
def g39 : G1
  | [.ows 0], [.row [.str] xs], k => br (decide (xs.length ≤ 1048576)) (k ⟨.val (.tuple #[]), [.row [.str] (srS xs)], [some 0]⟩) False
  | _, _, _ => False
def g41 : G1
  | [.ows 0], [.row [.str] xs], k => br (decide (xs.length ≤ 1048576)) (k ⟨.ows 0, [.row [.str] (cpS xs)], [none]⟩) False
  | _, _, _ => False
def g40 : G1
  | [.ows 0], [.row [.str] xs], k => br (decide (xs.length ≤ 1048576)) (k ⟨.ows 0, [.row [.str] xs], [none]⟩) False
  | _, _, _ => False
theorem ok3 : Ok Tryd.prog E3 := ⟨ttOK, eqsOK, by kernel_rfl⟩
theorem vu (ls : List (List UInt8)) : vlS (ls.map uS) = ls := by
  unfold vlS
  rw [List.map_map]
  exact List.map_id _
theorem elemS_ext {xs ys : List (Elem ks)} (h : vlS xs = vlS ys) : xs = ys := by
  have h2 := congrArg (List.map uS) h
  have e : ∀ zs : List (Elem ks), (vlS zs).map uS = zs := by
    intro zs
    unfold vlS
    rw [List.map_map]
    have : (uS ∘ fun (e : Elem ks) => e.1.data.toList) = id := by
      funext e
      obtain ⟨⟨⟨l⟩⟩, ⟨⟩⟩ := e
      rfl
    rw [this, List.map_id]
  rw [e, e] at h2
  exact h2
theorem strLt_bl (a b : ByteArray) : strLt a b = Op.bytesLess a.data.toList b.data.toList := by
  unfold strLt
  rw [ByteArray.toList_eq, ByteArray.toList_eq]
theorem le_bl (x y : List UInt8) : decide (x ≤ y) = !Op.bytesLess y x := by
  rw [Go.Proofs.bytesLess_eq, Bool.eq_iff_iff]
  simp
theorem at_vlS (xs : List (Elem ks)) {i : Nat} (hi : i < xs.length) : (at1 xs i).data.toList = (vlS xs).getD i [] := by
  unfold vlS at1
  rw [List.getD_eq_getElem?_getD, List.getD_eq_getElem?_getD, List.getElem?_map, List.getElem?_eq_getElem hi]
  rfl
theorem vlS_len (xs : List (Elem ks)) : (vlS xs).length = xs.length := List.length_map _
abbrev bl (a b : List UInt8) : Bool := Op.bytesLess a b
theorem kS_eq (xs : List (Elem ks)) (t : ByteArray) : kS xs t = ln (fun i => bl ((vlS xs).getD i []) t.data.toList) (vlS xs).length := by
  unfold kS
  rw [vlS_len]
  exact ln_congr fun i hi => by rw [strLt_bl, at_vlS xs hi]
theorem addS_ok {xs : List (Elem ks)} (h : Asc bl (vlS xs)) (t : ByteArray) : Asc bl (vlS (addS xs t)) ∧ ∀ a, a ∈ vlS (addS xs t) ↔ a ∈ vlS xs ∨ a = t.data.toList := by
  unfold addS
  have hk := kS_eq xs t
  generalize kS xs t = k at hk
  cases hc : decide (k < xs.length) && strEq (at1 xs k) t with
  | true =>
    refine ⟨h, fun a => ?_⟩
    rw [Bool.and_eq_true, decide_eq_true_eq] at hc
    constructor
    · exact .inl
    · rintro (h1 | rfl)
      · exact h1
      · have e := strEq_iff.1 hc.2
        rw [← e, at_vlS xs hc.1, List.getD_eq_getElem?_getD, List.getElem?_eq_getElem (by rw [vlS_len]; exact hc.1)]
        exact List.getElem_mem _
  | false =>
    have hn : t.data.toList ∉ vlS xs := by
      intro hm
      obtain ⟨j, hj, e⟩ := List.getElem_of_mem hm
      have hj' : j < xs.length := by rw [vlS_len] at hj; exact hj
      have hg : ∀ i (hi : i < (vlS xs).length), (vlS xs).getD i [] = (vlS xs)[i] := fun i hi => by rw [List.getD_eq_getElem?_getD, List.getElem?_eq_getElem hi]; rfl
      have hkj : k = j := by
        rw [hk]
        refine ln_uniq (fun i hi => ?_) (by omega) (fun _ => ?_)
        · rw [hg i (by omega), ← e]
          exact List.pairwise_iff_getElem.1 h i j (by omega) hj hi
        · rw [hg j hj, e]
          exact bl_irrefl _
      have : (decide (k < xs.length) && strEq (at1 xs k) t) = true := by
        rw [hkj, decide_eq_true hj', Bool.true_and, strEq_iff]
        apply ByteArray.ext
        apply Array.ext'
        rw [at_vlS xs hj', hg j hj, e]
      rw [hc] at this
      cases this
    have e : vlS (xs.take k ++ [(t, ())] ++ xs.drop k) = (vlS xs).take k ++ [t.data.toList] ++ (vlS xs).drop k := by
      unfold vlS
      simp only [List.map_append, List.map_take, List.map_drop, List.map_cons, List.map_nil]
    show Asc bl (vlS (xs.take k ++ [(t, ())] ++ xs.drop k)) ∧ ∀ a, a ∈ vlS (xs.take k ++ [(t, ())] ++ xs.drop k) ↔ _
    rw [e]
    refine ⟨by rw [hk]; exact ins_ok bl bl_irrefl bl_trans bl_tri [] h hn, fun a => ?_⟩
    rw [ins_mem (d := [])]
    exact Or.comm
theorem addS_len (xs : List (Elem ks)) (t : ByteArray) : (addS xs t).length ≤ xs.length + 1 := by
  unfold addS
  split
  · omega
  · simp only [List.length_append, List.length_cons, List.length_nil, List.length_take, List.length_drop]
    omega
theorem putS_len (xs : List (Elem ks)) (t : ByteArray) : (putS xs t).length ≤ xs.length + 1 := by
  unfold putS
  split
  · omega
  · exact addS_len xs t
theorem foldS_len : ∀ (l : List (Elem ks)) (o : List (Elem ks)), (l.foldl (fun o u => putS o u.1) o).length ≤ o.length + l.length
  | [], o => Nat.le_refl _
  | e :: l, o => by
    have h1 := foldS_len l (putS o e.1)
    have h2 := putS_len o e.1
    simp only [List.foldl_cons, List.length_cons]
    omega
abbrev full (u : Elem ks) : Bool := !strEq u.1 ⟨#[]⟩
theorem foldS_ok : ∀ (l : List (Elem ks)) (o : List (Elem ks)), Asc bl (vlS o) → Asc bl (vlS (l.foldl (fun o u => putS o u.1) o)) ∧ ∀ a, a ∈ vlS (l.foldl (fun o u => putS o u.1) o) ↔ a ∈ vlS o ∨ a ∈ vlS (l.filter full)
  | [], o, h => ⟨h, fun a => by simp [vlS]⟩
  | e :: l, o, h => by
    have h1 : Asc bl (vlS (putS o e.1)) ∧ ∀ a, a ∈ vlS (putS o e.1) ↔ a ∈ vlS o ∨ (full e = true ∧ a = e.1.data.toList) := by
      unfold putS full
      cases hs : strEq e.1 ⟨#[]⟩ with
      | true => exact ⟨h, fun a => by simp⟩
      | false =>
        obtain ⟨a1, a2⟩ := addS_ok h e.1
        exact ⟨a1, fun a => by rw [a2]; simp⟩
    obtain ⟨h3, h4⟩ := foldS_ok l (putS o e.1) h1.1
    refine ⟨h3, fun a => ?_⟩
    show a ∈ vlS (l.foldl (fun o u => putS o u.1) (putS o e.1)) ↔ _
    rw [h4, h1.2, List.filter_cons]
    cases hf : full e with
    | true =>
      rw [if_pos rfl]
      show _ ↔ a ∈ vlS o ∨ a ∈ (e.1.data.toList :: vlS (l.filter full))
      rw [List.mem_cons]
      constructor
      · rintro ((h | ⟨_, h⟩) | h)
        · exact .inl h
        · exact .inr (.inl h)
        · exact .inr (.inr h)
      · rintro (h | h | h)
        · exact .inl (.inl h)
        · exact .inl (.inr ⟨rfl, h⟩)
        · exact .inr h
    | false =>
      rw [if_neg Bool.false_ne_true]
      constructor
      · rintro ((h | ⟨h, _⟩) | h)
        · exact .inl h
        · cases h
        · exact .inr h
      · rintro (h | h)
        · exact .inl (.inl h)
        · exact .inr h
theorem srt_bl (zs : List (List UInt8)) : (zs.mergeSort fun x y => decide (x ≤ y)).Pairwise fun a b => bl b a = false := by
  have e : (fun x y : List UInt8 => decide (x ≤ y)) = fun x y => !Op.bytesLess y x := by
    funext x y
    exact le_bl x y
  rw [e]
  refine (List.pairwise_mergeSort (le := fun x y => !Op.bytesLess y x) (fun a b c h1 h2 => ?_) (fun a b => ?_) zs).imp fun {a b} h => ?_
  · rw [Bool.not_eq_true'] at h1 h2 ⊢
    cases hc : Op.bytesLess c a with
    | false => rfl
    | true =>
      rcases bl_tri b a with g | g | g
      · rw [h1] at g; cases g
      · subst g; rw [h2] at hc; cases hc
      · have := bl_trans _ _ _ hc g
        rw [h2] at this
        cases this
  · rcases bl_tri a b with g | g | g
    · have : Op.bytesLess b a = false := by
        cases hh : Op.bytesLess b a with
        | false => rfl
        | true =>
          have := bl_trans _ _ _ g hh
          rw [bl_irrefl] at this
          cases this
      rw [this]
      rfl
    · subst g
      rw [bl_irrefl]
      rfl
    · have : Op.bytesLess a b = false := by
        cases hh : Op.bytesLess a b with
        | false => rfl
        | true =>
          have := bl_trans _ _ _ g hh
          rw [bl_irrefl] at this
          cases this
      rw [this]
      simp
  · rw [Bool.not_eq_true'] at h
    exact h
def txs (xs : List (Elem kb)) : List (Elem ks) := (xs.flatMap bks).filter full
/-- All texts that are none empty, put in order and made one each, are what is put in one by one. -/
theorem bt_eq (xs : List (Elem kb)) : cpS (srS (txs xs)) = btxS xs := by
  have h1 := foldS_ok (xs.flatMap bks) [] (by unfold vlS Asc; simp)
  refine elemS_ext (asc_ext bl bl_irrefl bl_trans _ _ ?_ h1.1 fun a => ?_)
  all_goals
    unfold cpS
    rw [vu]
  · refine (compact_ok bl bl_irrefl bl_trans bl_tri _ ?_).1
    unfold srS
    rw [vu]
    exact srt_bl _
  · have hS : (vlS (srS (txs xs))).Pairwise fun a b => bl b a = false := by
      unfold srS
      rw [vu]
      exact srt_bl _
    refine ((compact_ok bl bl_irrefl bl_trans bl_tri _ hS).2 a).trans ?_
    unfold srS
    rw [vu, List.mem_mergeSort]
    refine Iff.trans ?_ (h1.2 a).symm
    constructor
    · exact .inr
    · rintro (h | h)
      · simp [vlS] at h
      · exact h
end Go.Proofs.YtkjnijddbiconaaDoor.Ev
