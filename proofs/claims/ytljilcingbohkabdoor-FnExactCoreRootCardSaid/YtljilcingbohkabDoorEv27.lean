/- From a row's world to what stands: what the start has laid. -/
import Derived.Test.YtljilcingbohkabDoorEv26
import Derived.LaidMore
import Derived.MakeChecks
import Derived.Deep.DeepHandedRow
import Derived.Lib.LaidTab
namespace Go.Proofs.YtljilcingbohkabDoor.Ev
open Go
set_option linter.unusedVariables false
theorem var_frame {P : Program} {W w : World} {n : String} {vs : Array Value} (hw : ∀ (b : Nat) (x : Obj), W.heap[b]? = some x → w.heap[b]? = some x) (h : W.var? P n = some vs) : w.var? P n = some vs := by
  unfold World.var? at h ⊢
  cases hg : P.globalNamed n with
  | none => simp [hg] at h
  | some g =>
    simp only [hg, Option.bind_some] at h ⊢
    cases hb : W.heap[g]? with
    | none => simp [hb] at h
    | some o =>
      rw [hw g o hb]
      rw [hb] at h
      exact h
theorem cell_frame {W w : World} {a : Addr} {v : Value} (hw : ∀ (b : Nat) (x : Obj), W.heap[b]? = some x → w.heap[b]? = some x) (h : W.cell? a = some v) : w.cell? a = some v := by
  unfold World.cell? at h ⊢
  cases hb : W.heap[a.block]? with
  | none => simp [hb] at h
  | some o =>
    rw [hw _ o hb]
    rw [hb] at h
    exact h
end Go.Proofs.YtljilcingbohkabDoor.Ev
