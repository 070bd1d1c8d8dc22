/- Cells laid anew in a row: what the row holds behind it. -/
import Derived.Test.YtkjnijddbiconaaQ5
import Derived.Test.YtkjnijddbiconaaEvC
namespace Go.Proofs.Ytkjnijddbiconaa.Ev
open Go Go.Lib
set_option linter.unusedVariables false
set_option linter.unusedSimpArgs false
abbrev kq : List CK := [.int .i64, .int .i64, .int .i64]
def putL (cur : Array Value) (o : Nat) : List Value → Array Value
  | [] => cur
  | v :: r => putL (cur.setIfInBounds o v) (o + 1) r
theorem putL_size : ∀ (vs : List Value) (cur : Array Value) (o : Nat), (putL cur o vs).size = cur.size
  | [], _, _ => rfl
  | v :: r, cur, o => by rw [putL, putL_size r]; simp
theorem putL_list : ∀ (vs : List Value) (cur : Array Value) (o : Nat), o + vs.length ≤ cur.size → (putL cur o vs).toList = cur.toList.take o ++ (vs ++ cur.toList.drop (o + vs.length))
  | [], cur, o, _ => by simp [putL]
  | v :: r, cur, o, h => by
    have h' : o + 1 + r.length ≤ cur.size := by simp at h; omega
    rw [putL, putL_list r _ (o + 1) (by simpa using h')]
    have hl : o < cur.toList.length := by rw [Array.length_toList]; omega
    rw [Array.toList_setIfInBounds, List.take_add_one, List.take_set_of_le (Nat.le_refl o), List.getElem?_set_self hl, List.drop_set_of_lt (by omega)]
    simp [Nat.add_comm, Nat.add_left_comm]
theorem setCells_at (b : Nat) : ∀ (vs : List Value) (o : Nat) (w : World) (cur : Array Value) (e : TypeId) (fz : Nat × Nat), w.heap[b]? = some (.cells cur e fz) → (w.setCells b o vs).heap[b]? = some (.cells (putL cur o vs) e fz)
  | [], _, _, _, _, _, h => h
  | v :: r, o, w, cur, e, fz, h => by
    rw [World.setCells, putL]
    refine setCells_at b r (o + 1) _ _ e fz ?_
    show (w.heap.modify b _)[b]? = _
    rw [Array.getElem?_modify, if_pos rfl, h]
    rfl
theorem setCells_ne (b : Nat) {b' : Nat} (hb : b' ≠ b) : ∀ (vs : List Value) (o : Nat) (w : World), (w.setCells b o vs).heap[b']? = w.heap[b']?
  | [], _, _ => rfl
  | v :: r, o, w => by
    rw [World.setCells, setCells_ne b hb r]
    show (w.heap.modify b _)[b']? = _
    rw [Array.getElem?_modify, if_neg (fun h => hb h.symm)]
theorem setCells_tl (b : Nat) : ∀ (vs : List Value) (o : Nat) (w : World), Tail w (w.setCells b o vs)
  | [], _, w => .refl w
  | v :: r, o, w => by
    rw [World.setCells]
    refine Tail.trans (b := w.setCell ⟨b, o, none⟩ v) ⟨rfl, rfl, rfl, ?_⟩ (setCells_tl b r (o + 1) _)
    show w.heap.size ≤ (w.heap.modify b _).size
    rw [Array.size_modify]
    exact Nat.le_refl _
/-- A row laid anew: in its own block, or in a new one. -/
structure Nu (w w' : World) (b0 : Option Nat) (b : Nat) (cur : Array Value) (e : TypeId) : Prop where
  tl : Tail w w'
  at_ : w'.heap[b]? = some (.cells cur e (0, 0))
  fr : ∀ (b' : Nat) (x : Obj), b0 ≠ some b' → w.heap[b']? = some x → w'.heap[b']? = some x
  new : b0 = some b ∨ w.heap.size ≤ b
theorem nu_alloc (w : World) (b0 : Option Nat) (cur : Array Value) (e : TypeId) : Nu w (w.alloc (.cells cur e)) b0 w.heap.size cur e := by
  refine ⟨⟨rfl, rfl, rfl, ?_⟩, ?_, fun b' x _ hx => ?_, .inr (Nat.le_refl _)⟩
  · show w.heap.size ≤ (w.heap.push _).size
    rw [Array.size_push]
    omega
  · show (w.heap.push _)[w.heap.size]? = _
    rw [Array.getElem?_push, if_pos rfl]
  · show (w.heap.push _)[b']? = _
    have hlt := (Array.getElem?_eq_some_iff.1 hx).1
    rw [Array.getElem?_push, if_neg (by omega), hx]
theorem nu_refl {w : World} {b : Nat} {cur : Array Value} {e : TypeId} (h : w.heap[b]? = some (.cells cur e (0, 0))) : Nu w w (some b) b cur e :=
  ⟨.refl w, h, fun _ _ _ hx => hx, .inl rfl⟩
theorem Nu.drew {w w' : World} {b0 : Option Nat} {b : Nat} {cur : Array Value} {e : TypeId} (h : Nu w w' b0 b cur e) : Nu w w'.drew b0 b cur e := ⟨⟨h.tl.os, h.tl.tape, h.tl.output, h.tl.size⟩, h.at_, h.fr, h.new⟩
theorem Nu.from {w w' : World} {b0 : Option Nat} {b : Nat} {cur : Array Value} {e : TypeId} (h : Nu w.drew w' b0 b cur e) : Nu w w' b0 b cur e := ⟨⟨h.tl.os, h.tl.tape, h.tl.output, h.tl.size⟩, h.at_, h.fr, h.new⟩
theorem Nu.put {w w' : World} {b0 : Option Nat} {b : Nat} {cur : Array Value} {e : TypeId} (h : Nu w w' b0 b cur e) (o : Nat) (vs : List Value) : Nu w (w'.setCells b o vs) b0 b (putL cur o vs) e := by
  refine ⟨h.tl.trans (setCells_tl b vs o w'), setCells_at b vs o w' cur e (0, 0) h.at_, fun b' x hb hx => ?_, h.new⟩
  have hne : b' ≠ b := by
    intro e
    subst e
    rcases h.new with h1 | h1
    · exact hb h1
    · have hlt := (Array.getElem?_eq_some_iff.1 hx).1
      omega
  rw [setCells_ne b hne]
  exact h.fr b' x hb hx
theorem nu_st {S : Sb} {w w' : World} {b0 : Option Nat} {b : Nat} {cur : Array Value} {e : TypeId} (h : Nu w w' b0 b cur e) (hs : ∀ b x, S b = some x → w.heap[b]? = some x) (h0 : ∀ b, b0 = some b → S b = none) :
    (∀ b x, S b = some x → w'.heap[b]? = some x) ∧ S b = none := by
  refine ⟨fun b' x hx => h.fr b' x (fun e => ?_) (hs b' x hx), ?_⟩
  · rw [h0 b' e] at hx
    cases hx
  · rcases h.new with h1 | h1
    · exact h0 b h1
    · cases hx : S b with
      | none => rfl
      | some x =>
        have hlt := (Array.getElem?_eq_some_iff.1 (hs b x hx)).1
        omega
/-- What a function gives back that lays a row anew. -/
theorem nu_out {S : Sb} {w w' : World} {b0 : Option Nat} {b n cap : Nat} {cur : Array Value} {e : TypeId} {cs : List CK} {ys : List (Elem cs)} (h : Nu w w' b0 b cur e) (hs : ∀ b x, S b = some x → w.heap[b]? = some x) (h0 : ∀ b, b0 = some b → S b = none)
    (ht : TabOK S) (hn : n = ys.length) (h1 : ys.length ≤ cap) (h2 : cap * cs.length ≤ cur.size) (h3 : cur.toList.take (flat cs ys).length = flat cs ys) (outs : List (Option Nat)) (ho : ∀ (i q : Nat), outs[i]? ≠ some (some q)) (π : Sg) :
    ∃ σ', R S σ' (.ows 0) (.slice (some ⟨b, 0, none⟩) n cap) ∧ OI S σ' (lookN (number 0 [.row cs ys])) w' ∧ Tail w w' ∧ (∀ q, σ' q ≠ none → q < [AO.row cs ys].length) ∧ ∀ (i q : Nat), outs[i]? = some (some q) → σ' q = π i := by
  obtain ⟨hst, hsep⟩ := nu_st h hs h0
  subst hn
  exact ⟨oneB ⟨b, ys.length, cs.length, cur.size, true⟩, .ows 0 ⟨b, ys.length, cs.length, cur.size, true⟩ cap rfl rfl h1 h2, oi_one rfl (fun h => by cases h) (fun _ => ⟨rfl, cur, e, h.at_, rfl, h3⟩) hst (fun _ => hsep) ht, h.tl, fun q hq => oneB_ne hq, fun i q hq => absurd hq (ho i q)⟩
end Go.Proofs.Ytkjnijddbiconaa.Ev
