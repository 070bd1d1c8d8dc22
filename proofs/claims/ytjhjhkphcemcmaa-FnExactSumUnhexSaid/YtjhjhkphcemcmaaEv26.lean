/- A function without a body: its entry in the model. -/
import Derived.Test.YtjhjhkphcemcmaaEv24
import Derived.Laws.Externs
namespace Go.Proofs.Ytjhjhkphcemcmaa.Ev
open Go
set_option linter.unusedVariables false
variable {P : Program}
theorem ctr_ext {f : FuncId} {fn : Func} {e : Array Value → Sem Value} (hf : P.funcs[f]? = some fn) (hname : (fn.name == "runtime.NumGoroutine") = false) (hb : fn.body.isNone = true) (hn : Extern.findNext fn = none) (he : Extern.find fn = some e)
    {us : List Value} {v : Value} (h : ∀ w, (e us.toArray).run P w = .ok v w) : Ctr P f (us.map .val) [] ⟨.val v, [], []⟩ := by
  intro S π w vs hR oi hπ o a K Q hk
  obtain rfl := RL_vals_eq hR
  rw [run_callFunc_extern hf hname hb hn he, h]
  exact hk v w ⟨π, .val v, oi, .refl w, hπ, fun i q hq => by simp at hq⟩
end Go.Proofs.Ytjhjhkphcemcmaa.Ev
