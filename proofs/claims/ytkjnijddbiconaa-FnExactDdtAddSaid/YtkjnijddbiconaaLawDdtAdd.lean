/- FnExactDdtAdd: for all arguments the law says true, and every argument reads behind the call as before. -/
import Derived.Test.YtkjnijddbiconaaRows
import Derived.Test.YtkjnijddbiconaaM3
import Derived.Test.YtkjnijddbiconaaEv24
namespace Go.Proofs.Ytkjnijddbiconaa.fnExactDdtAdd
open Go Go.ChangeShapes Go.WideShapes Go.ChangeAt Go.RowKit Go.Proofs.Ytkjnijddbiconaa.Ev
set_option linter.unusedVariables false
set_option maxRecDepth 100000
theorem own : ownKnob Try.prog.godebug = none := by kernel_rfl
theorem laid : laidOutB Try.prog = true := by kernel_rfl
theorem lifted (os : Os) (started : os.Started) (H : Type) (enc : TypeId × Value → H) :
    ReturnsInHanded {} Try.checked os 4 .any (Rows.fnExactDdtAddSpec.pre6 enc Try.prog Try.f4 Rows.fnExactDdtAddRow.domain false) (Rows.fnExactDdtAddSpec.post enc Try.prog Try.f4 false true false false) := by
  refine returnsInHanded_of_change_sized (C := Try.checked) own started (by kernel_rfl) Try.func4
    (ChangeSpec.witness6 (enc := enc) (C := Try.checked) false ⟨#[], #[.slice none 0 0, .int .i64 0, .int .i64 0], []⟩ 4 (by kernel_rfl) (by kernel_rfl) (by kernel_rfl) (by kernel_rfl)) ?_
  intro W base args ds gs before hval0 hW hcnd hsz0 _
  have hval : ∀ (j : Nat) t v, Try.f4.params[j]? = some t → args[j]? = some v → Value.okWide Try.prog W .any base t v := hval0
  have hW' := hW
  obtain ⟨p, q, hA0, hV, rfl, hfz, hnd⟩ := hW
  have hA : DataW.TrodAll enc Try.prog W 0 (fun _ => true) true Try.f4.params.toList args.toList ds p := hA0
  rw [Try.params4] at hA hval
  obtain ⟨v0, vs0, d0, ds0, p0, q0, hargs, rfl, rfl, h0, r0⟩ := trodAll_cons hA
  obtain ⟨v1, vs1, d1, ds1, p1, q1, rfl, rfl, rfl, h1, r1⟩ := trodAll_cons r0
  obtain ⟨v2, vs2, d2, ds2, p2, q2, rfl, rfl, rfl, h2, r2⟩ := trodAll_cons r1
  obtain ⟨rfl, rfl, rfl⟩ := trodAll_nil r2
  obtain rfl : args = #[v0, v1, v2] := by cases args; simp_all
  obtain ⟨rfl, rfl⟩ := trodVars_none hV
  obtain ⟨x0, hR0, ok0⟩ := arg_read (fun _ => none) (d := 8) (sk := [.slc [.int .i64, .int .i64, .int .i64]]) (by kernel_rfl) (agg := false) (by kernel_rfl) (hval 0 22 v0 rfl rfl) h0
  have hl0 : ∀ x ∈ p0, x.block < W.heap.size := fun x hx => hW'.lt x (by simp [hx])
  obtain ⟨x1, hR1, ok1⟩ := arg_read (fun _ => none) (d := 8) (sk := [.cell (.int .i64)]) (by kernel_rfl) (agg := false) (by kernel_rfl) (hval 1 3 v1 rfl rfl) h1
  have hl1 : ∀ x ∈ p1, x.block < W.heap.size := fun x hx => hW'.lt x (by simp [hx])
  obtain ⟨x2, hR2, ok2⟩ := arg_read (fun _ => none) (d := 8) (sk := [.cell (.int .i64)]) (by kernel_rfl) (agg := false) (by kernel_rfl) (hval 2 3 v2 rfl rfl) h2
  have hl2 : ∀ x ∈ p2, x.block < W.heap.size := fun x hx => hW'.lt x (by simp [hx])
  refine (ctr_calls Try.func4 (by kernel_rfl) (by kernel_rfl) (c4 x0.1 x1.1 x2.1 ok0.1.1) (RL.cons hR0 (RL.cons hR1 (RL.cons hR2 RL.nil))) (fun _ _ => trivial)).mono fun e W' ⟨he, bel⟩ => ?_
  subst he
  exact ⟨_, rfl, _, _, _, [], _, [], hW', trodAll_mk1 (shut_bool Try.underlying4 _), (trodAll_cons_mk (Below.trod laid (by kernel_rfl) (of_decide_eq_true (by kernel_rfl)) h0 bel hl0) (trodAll_cons_mk (Below.trod laid (by kernel_rfl) (of_decide_eq_true (by kernel_rfl)) h1 bel hl1) (trodAll_cons_mk (Below.trod laid (by kernel_rfl) (of_decide_eq_true (by kernel_rfl)) h2 bel hl2) trodAll_mk0))), rfl, bel.frame _, fun h => by cases h⟩
theorem over : Rows.fnExactDdtAddRow.holds Try.pinned (OpenSpec.ofChange Rows.fnExactDdtAddSpec) :=
  OpenClaim.holds_of_wide 4 Try.f4 rfl rfl rfl rfl rfl rfl rfl ⟨rfl, rfl, rfl, rfl, rfl⟩ rfl rfl rfl rfl rfl (by kernel_rfl) Try.func4 (by kernel_rfl)
    (of_decide_eq_true (by kernel_rfl)) (by unfold Func.isWrapper; first | (rw [if_pos (by decide +kernel)]; kernel_rfl) | (rw [if_neg (by decide +kernel)]; exact ⟨rfl, rfl⟩))
    (fun os started H enc _ => lifted os started H enc)
theorem proved : Rows.FnExactDdtAddSaid := over
#print axioms proved
end Go.Proofs.Ytkjnijddbiconaa.fnExactDdtAdd
namespace Go.Proofs.Ytkjnijddbiconaa
/-- The row, under a short name, for the claim. -/
theorem fnExactDdtAdd_holds : Rows.FnExactDdtAddSaid := fnExactDdtAdd.proved
end Go.Proofs.Ytkjnijddbiconaa
