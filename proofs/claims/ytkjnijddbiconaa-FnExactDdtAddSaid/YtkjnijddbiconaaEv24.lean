/- From a contract to what a statement asks of a call. -/
import Derived.Test.YtkjnijddbiconaaEv23
namespace Go.Proofs.Ytkjnijddbiconaa.Ev
open Go Go.ChangeShapes Go.WideShapes Go.ChangeAt Go.RowKit
set_option linter.unusedVariables false
set_option linter.unusedSimpArgs false
variable {P : Program} {H : Type} {enc : TypeId × Value → H} {w : World} {base : Nat} {spare : Nat → Bool} {held : Bool}

def argAV (agg : Bool) (us : List AV) : AV :=
  match agg with
  | true => .agg us
  | false => us.headD .junk
theorem arg_read (σ : Sg) {r : Reach} {b0 d : Nat} {t : TypeId} {sk : List SK} (hs : shapeB P d t = some sk) {agg : Bool} (ha : aggT P t = agg) {v : Value} (hval : Value.okWide P w r b0 t v) {x : DataW H} {ps : List MemPlace} (h : DataW.Trod enc P w base spare held t v x ps) :
    ∃ y : Sd sk, R (SH w) σ (argAV agg (toAVs sk y)) v ∧ sdOk sk y := by
  subst ha
  obtain ⟨fuel, hf⟩ := h
  obtain ⟨y, h1, h2⟩ := trod_read σ fuel d t _ (x, ps) sk hs hf
  refine ⟨y, ?_, h2⟩
  have scalar : ∀ (hc : v.cells = #[v]) (hg : aggT P t = false), R (SH w) σ (argAV (aggT P t) (toAVs sk y)) v := by
    intro hc hg
    rw [hc] at h1
    rw [hg]
    generalize toAVs sk y = us at h1
    cases us with
    | nil => have := h1.1; simp at this
    | cons a us =>
      obtain ⟨u, us', e, g1, g2⟩ := h1.uncons
      simp at e
      obtain ⟨rfl, rfl⟩ := e
      exact g1
  cases d with
  | zero => simp [shapeB] at hs
  | succ d =>
    simp only [shapeB] at hs
    split at hs
    · rename_i k hk
      obtain ⟨n, rfl⟩ := okWide_int hk hval
      exact scalar rfl (by simp [aggT, hk])
    · rename_i hk
      obtain ⟨n, rfl⟩ := okWide_bool hk hval
      exact scalar rfl (by simp [aggT, hk])
    · rename_i hk
      obtain ⟨n, rfl⟩ := okWide_string hk hval
      exact scalar rfl (by simp [aggT, hk])
    · rename_i e hk
      obtain ⟨ad, len, cap, rfl⟩ := okWide_slice hk hval
      exact scalar rfl (by simp [aggT, hk])
    · rename_i n e hk
      simp only [Value.okWide, hk] at hval
      obtain ⟨cs, rfl, _, _⟩ := hval
      have : aggT P t = true := by simp [aggT, hk]
      rw [this]
      have := R.agg (S := SH w) (σ := σ) (toAVs sk y) cs.toList h1.1 h1.2
      simpa [argAV] using this
    · rename_i fs hk
      simp only [Value.okWide, hk] at hval
      obtain ⟨cs, rfl, _, _⟩ := hval
      have : aggT P t = true := by simp [aggT, hk]
      rw [this]
      have := R.agg (S := SH w) (σ := σ) (toAVs sk y) cs.toList h1.1 h1.2
      simpa [argAV] using this
    · cases hs
/-- A function that only reads and says true. -/
theorem ctr_calls {f : FuncId} {fn : Func} (hf : P.funcs[f]? = some fn) (hb : fn.body.isSome = true) (hn : (fn.name == "runtime.NumGoroutine") = false) {args : List AV} (h : Ctr P f args [] ⟨.val (.bool true), [], []⟩) {vs : List Value}
    (hR : RL (SH w) (fun _ => none) args vs) (ht : TabOK (SH w)) : Calls P f vs.toArray w fun e w' => e = .returned (.bool true) ∧ Below w.heap.size w w' := by
  obtain ⟨c, hc⟩ := Option.isSome_iff_exists.1 hb
  have hgo := h (SH w) (fun _ => none) w vs hR ⟨fun o x ho => by simp [number, lookN] at ho, fun o o' x x' k k' ho => by simp [number, lookN] at ho, fun b x hb => hb, fun o x k ho => by simp [number, lookN] at ho, ht⟩ (fun q hq => absurd rfl hq)
    ⟨some 0, .move (.const undef), 0, "", #[], none⟩ ⟨#[undef], []⟩ (fun a' w' => a'.tmps = #[.bool true] ∧ Below w.heap.size w w') (fun _ _ _ => False) fun v w' ⟨σ', h1, h2, h3, _, _⟩ => by
      cases h1
      refine ⟨rfl, h3.os, h3.tape, h3.output, h3.size, fun k hk => ?_⟩
      have : SH w k = some w.heap[k] := by simp [SH, hk]
      rw [h2.st k _ this]
      simp [hk]
  rw [run_callFunc hf hc hn] at hgo
  refine Calls.mono hgo fun e w' he => ?_
  cases e with
  | returned v =>
    obtain ⟨h1, h2⟩ := he
    simp [Act.put] at h1
    exact ⟨by rw [h1], h2⟩
  | panicked ch => exact he.elim
  | outgrown => obtain ⟨a, w', h⟩ := he; exact h.elim
end Go.Proofs.Ytkjnijddbiconaa.Ev
