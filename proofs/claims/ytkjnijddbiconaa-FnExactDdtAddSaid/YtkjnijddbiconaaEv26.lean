/- Functions without a body, and functions of the library: from what the kit says of them. -/
import Derived.Test.YtkjnijddbiconaaEv24
import Derived.Laws.Externs
namespace Go.Proofs.Ytkjnijddbiconaa.Ev
open Go
set_option linter.unusedVariables false
variable {P : Program}
theorem ctr_ext {f : FuncId} {fn : Func} {e : Array Value → Sem Value} (hf : P.funcs[f]? = some fn) (hname : (fn.name == "runtime.NumGoroutine") = false) (hb : fn.body.isNone = true) (hn : Extern.findNext fn = none) (he : Extern.find fn = some e)
    {us : List Value} {v : Value} (h : ∀ w, (e us.toArray).run P w = .ok v w) : Ctr P f (us.map .val) [] ⟨.val v, [], []⟩ := by
  intro S π w vs hR oi hπ o a K Q hk
  obtain rfl := RL_vals_eq hR
  rw [run_callFunc_extern hf hname hb hn he, h]
  exact hk v w ⟨π, .val v, oi, .refl w, hπ, fun i q hq => by simp at hq⟩
/-- What a call leaves as it was. -/
structure Quiet (w w' : World) : Prop where
  tl : Tail w w'
  fr : ∀ (b : Nat) (x : Obj), w.heap[b]? = some x → w'.heap[b]? = some x
theorem ctr_lib {f : FuncId} {fn : Func} (hf : P.funcs[f]? = some fn) (hb : fn.body.isSome = true) (hn : (fn.name == "runtime.NumGoroutine") = false) {args : List AV} {v : AV}
    (h : ∀ (S : Sb) (π : Sg) (w : World) (vs : List Value), RL S π args vs → (∀ b x, S b = some x → w.heap[b]? = some x) → TabW w → Calls P f vs.toArray w fun e w' => ∃ x, e = .returned x ∧ R S π v x ∧ Quiet w w') : Ctr P f args [] ⟨v, [], []⟩ := by
  obtain ⟨c, hc⟩ := Option.isSome_iff_exists.1 hb
  intro S π w vs hR oi hπ o a K Q hk
  rw [run_callFunc hf hc hn]
  show Calls P f vs.toArray w _
  refine Calls.mono (h S π w vs hR oi.st (oi.tab w oi.st)) fun e w' ⟨x, he, hx, q⟩ => ?_
  subst he
  exact hk x w' ⟨π, hx, ⟨fun o x ho => by simp [number, lookN] at ho, fun o o' x x' k k' ho => by simp [number, lookN] at ho, fun b x hb => q.fr b x (oi.st b x hb), fun o x k ho => by simp [number, lookN] at ho, oi.tab⟩, q.tl, hπ, fun i q hq => by simp at hq⟩
/-- The same for plain arguments and a plain result. -/
theorem ctr_plain {f : FuncId} {fn : Func} (hf : P.funcs[f]? = some fn) (hb : fn.body.isSome = true) (hn : (fn.name == "runtime.NumGoroutine") = false) {us : List Value} {v : Value}
    (h : ∀ w, TabW w → Calls P f us.toArray w fun e w' => e = .returned v ∧ Quiet w w') : Ctr P f (us.map .val) [] ⟨.val v, [], []⟩ :=
  ctr_lib hf hb hn fun S π w vs hR hS ht => by
    obtain rfl := RL_vals_eq hR
    exact Calls.mono (h w ht) fun e w' ⟨he, q⟩ => ⟨v, he, .val v, q⟩
theorem Quiet.refl (w : World) : Quiet w w := ⟨.refl w, fun _ _ h => h⟩
theorem Quiet.of_eq {w w' : World} (h : w' = w) : Quiet w w' := h ▸ .refl w
end Go.Proofs.Ytkjnijddbiconaa.Ev
