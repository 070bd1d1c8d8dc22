/- A row's cells laid anew by a function of the library. -/
import Derived.Test.YtkjnijddbiconaaEv31
namespace Go.Proofs.Ytkjnijddbiconaa.Ev
open Go
set_option linter.unusedVariables false
theorem alt_put {α : Type} [Inhabited α] (enc : α → Value) {w : World} {b n : Nat} {cur : Array Value} {e : TypeId} (d : Array α) (os : Array Obj) (hb : w.heap[b]? = some (.cells cur e (0, 0))) :
    Alt w (Sort.grow (Sort.putRow enc (Sort.ahead w n) b 0 d) os) b (Sort.putCells enc 0 d cur) e := by
  have hlt := (Array.getElem?_eq_some_iff.1 hb).1
  refine ⟨⟨rfl, rfl, rfl, ?_⟩, ?_, fun b' x hne hx => ?_⟩
  · show w.heap.size ≤ (w.heap.modify b (Sort.onCells (Sort.putCells enc 0 d)) ++ os).size
    rw [Array.size_append, Array.size_modify]
    omega
  · show (w.heap.modify b (Sort.onCells (Sort.putCells enc 0 d)) ++ os)[b]? = _
    rw [Array.getElem?_append_left (by rw [Array.size_modify]; exact hlt), Array.getElem?_modify, if_pos rfl, hb]
    rfl
  · have hlt' := (Array.getElem?_eq_some_iff.1 hx).1
    show (w.heap.modify b (Sort.onCells (Sort.putCells enc 0 d)) ++ os)[b']? = _
    rw [Array.getElem?_append_left (by rw [Array.size_modify]; exact hlt'), Array.getElem?_modify, if_neg (fun h => hne h.symm), hx]
theorem put_cells {α : Type} [Inhabited α] (enc : α → Value) (d : Array α) (cur : Array Value) (h : d.size ≤ cur.size) : (Sort.putCells enc 0 d cur).size = cur.size ∧ (Sort.putCells enc 0 d cur).toList.take d.size = d.toList.map enc := by
  have hs : (Sort.putCells enc 0 d cur).size = cur.size := by simp [Sort.putCells]
  refine ⟨hs, ?_⟩
  apply List.ext_getElem
  · rw [List.length_take, Array.length_toList, hs, List.length_map, Array.length_toList]
    omega
  · intro i h1 h2
    have hi : i < d.size := by simpa using h2
    rw [List.getElem_take, Array.getElem_toList, List.getElem_map, Array.getElem_toList]
    simp only [Sort.putCells, Array.getElem_mapIdx]
    rw [if_pos ⟨Nat.zero_le _, by omega⟩, Nat.sub_zero, getElem!_pos d i hi]
theorem holds_of {α : Type} [Inhabited α] (enc : α → Value) {w : World} {b : Nat} {cur : Array Value} {e : TypeId} {d : Array α} (hb : w.heap[b]? = some (.cells cur e (0, 0))) (hc : cur.toList.take d.size = d.toList.map enc) : Sort.Holds enc w b 0 d := by
  intro j hj
  have h1 : cur[j]? = some (enc d[j]!) := by
    have := congrArg (fun l : List Value => l[j]?) hc
    simp only [List.getElem?_take, if_pos hj, List.getElem?_map, Array.getElem?_toList] at this
    rw [this, Array.getElem?_eq_getElem hj, getElem!_pos d j hj]
    rfl
  constructor
  · simp [World.cell?, hb, h1]
  · simp [World.frozen?, hb]
end Go.Proofs.Ytkjnijddbiconaa.Ev
