/- A function that takes memory over and gives none of it back. -/
import Derived.Test.YtkjnijddbiconaaEv21
namespace Go.Proofs.Ytkjnijddbiconaa.Ev
open Go
set_option linter.unusedVariables false
variable {P : Program}
theorem oi_none {S : Sb} {σ : Sg} {ob : Ob} {w : World} (h : OI S σ ob w) : OI S (fun _ => none) (lookN (number 0 [])) w :=
  ⟨fun o x ho => by simp [number, lookN] at ho, fun o o' x x' k k' ho => by simp [number, lookN] at ho, h.st, fun o x k ho => by simp [number, lookN] at ho, h.tab⟩
theorem ctr_drop {E : Env} (ok : Ok P E) {G : Gk} (hG : HG P G) {f : FuncId} {fn : Func} (hf : P.funcs[f]? = some fn) (hb : fn.body.isSome = true) (hn : (fn.name == "runtime.NumGoroutine") = false)
    {args : List AV} {obs : List AO} {v : Value} (ho : Nat.ble obs.length start = true) (h : ∀ C, bodyP E G (LoopOk P C) fn args obs (fun o => ∃ os us, o = some ⟨.val v, os, us⟩)) : Ctr P f args obs ⟨.val v, [], List.replicate obs.length none⟩ := by
  obtain ⟨c, hb⟩ := Option.isSome_iff_exists.1 hb
  have ho : obs.length ≤ start := by simpa using ho
  intro S π w vs hR oi hπ o a K Q hk
  rw [run_callFunc hf hb hn]
  show Calls P f vs.toArray w _
  have hbody := h ⟨S, π, w⟩
  unfold bodyP at hbody
  have hc : codeOf fn = c := by simp [codeOf, hb]
  rw [hc] at hbody
  refine calls_of_wp hf hb (evP_sound (ok.of fn).tt (ok.of fn).eqs (ok.of fn).mixed hG c _ _ π _ w _ hbody ?_ fun e st' σ' a' w' hst hi' => ?_)
  · have hlen := hR.1
    have hRL : RL S π (args ++ List.replicate (fn.ntmps - args.length) (.val undef)) (vs.toArray ++ Array.replicate (fn.ntmps - vs.toArray.size) undef).toList := by
      have hrep : ∀ n, RL S π (List.replicate n (.val undef)) (List.replicate n undef) := by
        intro n
        induction n with
        | zero => exact .nil
        | succ n ih => exact .cons (.val _) ih
      have := hR.append (hrep (fn.ntmps - args.length))
      simpa [hlen] using this
    have sl := slots_iff (a := ⟨vs.toArray ++ Array.replicate (fn.ntmps - vs.toArray.size) undef, []⟩).2 hRL
    refine ⟨sl.len, sl.tm, oi, fun p hp => Nat.lt_of_lt_of_le (hπ p hp) ho, fun i p hp => ?_, rfl, .refl w⟩
    obtain ⟨h1, h2⟩ := handed_at _ _ _ _ hp
    have : p = i := by omega
    subst this
    obtain ⟨k, hk, _⟩ := oi.ok p obs[p] (by rw [lookN_num]; simp [h2])
    exact ⟨k, hk, hk⟩
  · have fin : ∀ (hst : ∃ os us, finish E fn.results.toList st' = some ⟨.val v, os, us⟩), a'.defers = [] ∧ ∃ v, (results fn a'.tmps).run P w' = .ok v w' ∧ K (a.put o.dst v) w' := by
      intro hst
      obtain ⟨os, us, hst⟩ := hst
      obtain ⟨x, h1, σ2, h2, h3, h4, h5⟩ := finish_ok (P := P) (ok.of fn).tt hi' hst
      have h2 : R S σ2 (.val v) x := h2
      cases h2
      refine ⟨hi'.df, v, h1, hk v w' ⟨fun _ => none, .val v, oi_none h3, hi'.tl, fun q hq => absurd rfl hq, fun i q hq => ?_⟩⟩
      have hq : (List.replicate obs.length (none : Option Nat))[i]? = some (some q) := hq
      rw [List.getElem?_replicate] at hq
      split at hq
      · cases hq
      · cases hq
    cases e with
    | normal => exact fin hst
    | ret => exact fin hst
    | exit n => exact hst.elim
end Go.Proofs.Ytkjnijddbiconaa.Ev
