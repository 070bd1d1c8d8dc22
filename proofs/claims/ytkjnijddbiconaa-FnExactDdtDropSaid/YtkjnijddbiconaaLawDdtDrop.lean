/- FnExactDdtDrop: for all arguments the law says true, and every argument reads behind the call as before. -/
import Derived.Test.YtkjnijddbiconaaRows
import Derived.Test.YtkjnijddbiconaaM3
import Derived.Test.YtkjnijddbiconaaEv24
namespace Go.Proofs.Ytkjnijddbiconaa.fnExactDdtDrop
open Go Go.ChangeShapes Go.WideShapes Go.ChangeAt Go.RowKit Go.Proofs.Ytkjnijddbiconaa.Ev
set_option linter.unusedVariables false
set_option maxRecDepth 100000
theorem own : ownKnob Try.prog.godebug = none := by kernel_rfl
theorem laid : laidOutB Try.prog = true := by kernel_rfl
theorem lifted (os : Os) (started : os.Started) (H : Type) (enc : TypeId × Value → H) :
    ReturnsInHanded {} Try.checked os 3 .any (Rows.fnExactDdtDropSpec.pre6 enc Try.prog Try.f3 Rows.fnExactDdtDropRow.domain false) (Rows.fnExactDdtDropSpec.post enc Try.prog Try.f3 false true false false) := by
  refine returnsInHanded_of_change_sized (C := Try.checked) own started (by kernel_rfl) Try.func3
    (ChangeSpec.witness6 (enc := enc) (C := Try.checked) false ⟨#[], #[.slice none 0 0, .int .i64 0], []⟩ 3 (by kernel_rfl) (by kernel_rfl) (by kernel_rfl) (by kernel_rfl)) ?_
  intro W base args ds gs before hval0 hW hcnd hsz0 _
  have hval : ∀ (j : Nat) t v, Try.f3.params[j]? = some t → args[j]? = some v → Value.okWide Try.prog W .any base t v := hval0
  have hW' := hW
  obtain ⟨p, q, hA0, hV, rfl, hfz, hnd⟩ := hW
  have hA : DataW.TrodAll enc Try.prog W 0 (fun _ => true) true Try.f3.params.toList args.toList ds p := hA0
  rw [Try.params3] at hA hval
  obtain ⟨v0, vs0, d0, ds0, p0, q0, hargs, rfl, rfl, h0, r0⟩ := trodAll_cons hA
  obtain ⟨v1, vs1, d1, ds1, p1, q1, rfl, rfl, rfl, h1, r1⟩ := trodAll_cons r0
  obtain ⟨rfl, rfl, rfl⟩ := trodAll_nil r1
  obtain rfl : args = #[v0, v1] := by cases args; simp_all
  obtain ⟨rfl, rfl⟩ := trodVars_none hV
  obtain ⟨x0, hR0, ok0⟩ := arg_read (fun _ => none) (d := 8) (sk := [.slc [.int .i64, .int .i64, .int .i64]]) (by kernel_rfl) (agg := false) (by kernel_rfl) (hval 0 22 v0 rfl rfl) h0
  have hl0 : ∀ x ∈ p0, x.block < W.heap.size := fun x hx => hW'.lt x (by simp [hx])
  obtain ⟨x1, hR1, ok1⟩ := arg_read (fun _ => none) (d := 8) (sk := [.cell (.int .i64)]) (by kernel_rfl) (agg := false) (by kernel_rfl) (hval 1 3 v1 rfl rfl) h1
  have hl1 : ∀ x ∈ p1, x.block < W.heap.size := fun x hx => hW'.lt x (by simp [hx])
  refine (ctr_calls Try.func3 (by kernel_rfl) (by kernel_rfl) (c3 x0.1 x1.1 ok0.1.1 ok1.1) (RL.cons hR0 (RL.cons hR1 RL.nil)) (fun _ _ => trivial)).mono fun e W' ⟨he, bel⟩ => ?_
  subst he
  exact ⟨_, rfl, _, _, _, [], _, [], hW', trodAll_mk1 (shut_bool Try.underlying4 _), (trodAll_cons_mk (Below.trod laid (by kernel_rfl) (of_decide_eq_true (by kernel_rfl)) h0 bel hl0) (trodAll_cons_mk (Below.trod laid (by kernel_rfl) (of_decide_eq_true (by kernel_rfl)) h1 bel hl1) trodAll_mk0)), rfl, bel.frame _, fun h => by cases h⟩
theorem over : Rows.fnExactDdtDropRow.holds Try.pinned (OpenSpec.ofChange Rows.fnExactDdtDropSpec) :=
  OpenClaim.holds_of_wide 3 Try.f3 rfl rfl rfl rfl rfl rfl rfl ⟨rfl, rfl, rfl, rfl, rfl⟩ rfl rfl rfl rfl rfl (by kernel_rfl) Try.func3 (by kernel_rfl)
    (of_decide_eq_true (by kernel_rfl)) (by unfold Func.isWrapper; first | (rw [if_pos (by decide +kernel)]; kernel_rfl) | (rw [if_neg (by decide +kernel)]; exact ⟨rfl, rfl⟩))
    (fun os started H enc _ => lifted os started H enc)
theorem proved : Rows.FnExactDdtDropSaid := over
#print axioms proved
end Go.Proofs.Ytkjnijddbiconaa.fnExactDdtDrop
namespace Go.Proofs.Ytkjnijddbiconaa
/-- The row, under a short name, for the claim. -/
theorem fnExactDdtDrop_holds : Rows.FnExactDdtDropSaid := fnExactDdtDrop.proved
end Go.Proofs.Ytkjnijddbiconaa
