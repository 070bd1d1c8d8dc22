/- The rules for a function of the program, ready for use. -/
import Derived.Test.YtkjnijddbiconaaEv20
import Derived.KernelRfl
namespace Go.Proofs.Ytkjnijddbiconaa.Ev
open Go
set_option linter.unusedVariables false
variable {P : Program}

def RowsOK (P : Program) : List (Nat × TI) → Prop
  | [] => True
  | (t, ti) :: r => RowOK P t ti ∧ RowsOK P r
theorem RowsOK.all : ∀ (tt : List (Nat × TI)), RowsOK P tt → TTOK P tt
  | [], _, t, ti, hm => by simp at hm
  | (t0, ti0) :: r, h, t, ti, hm => by
    rcases List.mem_cons.1 hm with e | hm
    · cases e; exact h.1
    · exact RowsOK.all r h.2 t ti hm
theorem br_intro {b : Bool} {t e : Prop} (h1 : b = true → t) (h2 : b = false → e) : br b t e := by
  cases b
  · exact h2 rfl
  · exact h1 rfl
/-- All that is fixed. -/
structure Ok (P : Program) (E : Env) : Prop where
  tt : TTOK P E.tt
  eqs : EqsOK P E
  mixed : P.follows .mixedOrders = true
theorem ctr_fn {E : Env} (ok : Ok P E) {G : Gk} (hG : HG P G) {f : FuncId} {fn : Func} (hf : P.funcs[f]? = some fn) (hb : fn.body.isSome = true) (hn : (fn.name == "runtime.NumGoroutine") = false)
    {args : List AV} {obs : List AO} {r : Res} (ho : Nat.ble obs.length start = true) (h : ∀ C, bodyP E G (LoopOk P C) fn args obs (fun o => o = some r)) : Ctr P f args obs r := by
  obtain ⟨c, hc⟩ := Option.isSome_iff_exists.1 hb
  exact ctr_of (E := E) ok.tt ok.eqs ok.mixed hG hf hc hn (by simpa using ho) h
theorem loopOk {E : Env} (ok : Ok P E) {G : Gk} (hG : HG P G) {C : Cx} {ι : Type} (ST : ι → St) (μ : ι → Nat) {c : Code} {k : Kt}
    (body : ∀ i, evP E G (LoopOk P C) c (ST i) (roundK (jof E c) ST μ (μ i) k)) (i : ι) : LoopOk P C c (ST i) k :=
  loop_rule ok.tt ok.eqs ok.mixed hG ST μ body i
theorem hg_none : HG P (fun _ _ _ _ => False) := fun _ _ _ _ h => h.elim
theorem eqs_none {tt : List (Nat × TI)} {io : List Nat} : EqsOK P ⟨tt, io, [], .skip, []⟩ := fun t h => by cases h
theorem Ok.of {E : Env} (ok : Ok P E) (fn : Func) : Ok P (E.of fn) := ⟨ok.tt, ok.eqs, ok.mixed⟩
/-- Contracts by number. -/
abbrev G1 := List AV → List AO → (Res → Prop) → Prop
def gk (tbl : List (Nat × G1)) : Gk := fun f args obs k => match lookN tbl f with
  | some g => g args obs k
  | none => False
def G1Ok (P : Program) (f : Nat) (g : G1) : Prop := ∀ args obs k, g args obs k → ∃ r, Ctr P f args obs r ∧ k r
theorem hg_nil : HG P (gk []) := fun _ _ _ _ h => h.elim
theorem hg_cons {f : Nat} {g : G1} {tbl : List (Nat × G1)} (h : G1Ok P f g) (t : HG P (gk tbl)) : HG P (gk ((f, g) :: tbl)) := by
  intro f' args obs k hk
  unfold gk at hk
  simp only [lookN] at hk
  by_cases e : f = f'
  · subst e; simp at hk; exact h args obs k hk
  · simp [e] at hk; exact t f' args obs k (by unfold gk; exact hk)
/-- A round's end: the head's state, or what follows the loop. -/
def rk (ts : List Tmp) (N : St → Prop) (k : Kt) : Kt := fun e st => match e with
  | .normal => atHead N (head ts st)
  | e => k e st
theorem loopR {E : Env} (ok : Ok P E) {G : Gk} (hG : HG P G) {C : Cx} {ι : Type} (ST : ι → St) (μ : ι → Nat) {c : Code} {k : Kt}
    (body : ∀ i, evP E G (LoopOk P C) c (ST i) (rk (jof E c) (fun st => ∃ j, st = ST j ∧ μ j < μ i) k)) (i : ι) : LoopOk P C c (ST i) k := by
  refine loopOk ok hG ST μ (fun i => ?_) i
  have : rk (jof E c) (fun st => ∃ j, st = ST j ∧ μ j < μ i) k = roundK (jof E c) ST μ (μ i) k := by
    funext e st
    cases e with
    | normal =>
      simp only [rk, roundK, atHead]
      cases head (jof E c) st with
      | none => simp
      | some s => simp
    | exit n => rfl
    | ret => rfl
  rw [← this]
  exact body i
theorem br_and {b : Bool} {t : Prop} (h : br b t False) : b = true ∧ t := br_true h (fun h => h)
end Go.Proofs.Ytkjnijddbiconaa.Ev
