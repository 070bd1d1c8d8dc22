/- FnBookTexts: for all arguments the law says true, and every argument reads behind the call as before; the card. -/
import Derived.Test.YtkjnijddbiconaaDoorRows
import Derived.Test.YtkjnijddbiconaaDoorTie
import Derived.Test.YtkjnijddbiconaaDoorCards
import Derived.Test.YtkjnijddbiconaaDoorB7
import Derived.Test.YtkjnijddbiconaaDoorEvC
import Derived.Test.YtkjnijddbiconaaDoorShelf
import Derived.ProofKit
import Derived.SevenTiedAt
import Derived.JoinedCond
import Derived.Stop.Joined
import Derived.Lay
namespace Go.Proofs.YtkjnijddbiconaaDoor.fnBookTexts
open Go Go.ChangeShapes Go.WideShapes Go.ChangeAt Go.RowKit Go.Proofs.YtkjnijddbiconaaDoor.Ev
set_option linter.unusedVariables false
set_option maxRecDepth 100000
theorem own : ownKnob Tryd.prog.godebug = none := by kernel_rfl
theorem laidOut : laidOutB Tryd.prog = true := by kernel_rfl
/-- A world that meets the condition: the one that the program's own start has laid. -/
noncomputable def laidWorld (os : Os) : World := World.laidAll Tryd.prog os Rows.fnBookTextsRow.laid
theorem laid_met (os : Os) (args : Array Value) : laidMetH Tryd.prog Rows.fnBookTextsRow.laid ((laidWorld os).forCall (fun _ _ => 0) ⟨#[], args, []⟩).memory := by
  rw [MakeChecks.laidMetH_plain _ _ _ (by kernel_rfl)]
  exact laidMet_laidAll _ (by kernel_rfl) (by kernel_rfl)
theorem witness_row (os : Os) {H : Type} (enc : TypeId × Value → H) :
    (OpenSpec.ofChange Rows.fnBookTextsSpec).preRow enc Tryd.prog Tryd.f4 Rows.fnBookTextsRow.domain false Rows.fnBookTextsRow.laid ((laidWorld os).forCall (fun _ _ => 0) ⟨#[], #[.slice none 0 0], []⟩).memory #[.slice none 0 0] := by
  have hw : (DataW.whole enc Tryd.prog ((laidWorld os).forCall (fun _ _ => 0) ⟨#[], #[.slice none 0 0], []⟩).memory Tryd.f4.params.toList (OpenSpec.ofChange Rows.fnBookTextsSpec).vars false #[.slice none 0 0].toList 8).isSome = true := by kernel_rfl
  obtain ⟨x, hx⟩ := Option.isSome_iff_exists.1 hw
  exact OpenSpec.preRow_of_cond 8 hx rfl (fun k hk => by cases hk) (by kernel_rfl) (laid_met os _)
theorem lifted (os : Os) (started : os.Started) (H : Type) (enc : TypeId × Value → H) (F : Stop.Interp) :
    ReturnsInHanded {} Tryd.checked os 4 .any ((OpenSpec.ofChange Rows.fnBookTextsSpec).preRow enc Tryd.prog Tryd.f4 Rows.fnBookTextsRow.domain false Rows.fnBookTextsRow.laid) (((OpenSpec.ofChange Rows.fnBookTextsSpec).at F).post enc Tryd.prog Tryd.f4 false true false false) := by
  refine returnsInHanded_of_row (C := Tryd.checked) (s := OpenSpec.ofChange Rows.fnBookTextsSpec) own started (by kernel_rfl) Tryd.func4
    (witness_row_at (enc := enc) (C := Tryd.checked) false (laidWorld os) #[.slice none 0 0] (World.laidAll_os _ _ _) (by kernel_rfl) (by kernel_rfl) (by kernel_rfl) (witness_row os enc)) ?_
  intro W base args ds gs before hval0 hW _ _ hsz0 hL hsh _
  have hval : ∀ (j : Nat) t v, Tryd.f4.params[j]? = some t → args[j]? = some v → Value.okWide Tryd.prog W .any base t v := hval0
  have hW' := hW
  obtain ⟨p, q, hA0, hV, rfl, hfz, hnd⟩ := hW
  have hA : DataW.TrodAll enc Tryd.prog W 0 (fun _ => true) true Tryd.f4.params.toList args.toList ds p := hA0
  rw [Tryd.params4] at hA hval
  have htab : TabOK (SH W) := fun _ _ => trivial
  obtain ⟨v0, vs0, d0, ds0, p0, q0, hargs, rfl, rfl, h0, r0⟩ := trodAll_cons hA
  obtain ⟨rfl, rfl, rfl⟩ := trodAll_nil r0
  obtain rfl : args = #[v0] := by cases args; simp_all
  obtain ⟨rfl, rfl⟩ := trodVars_none hV
  obtain ⟨x0, hR0, ok0⟩ := arg_read (fun _ => none) (d := 8) (sk := [.slc [.int .u8]]) (by kernel_rfl) (agg := false) (by kernel_rfl) (hval 0 22 v0 rfl rfl) h0
  have hl0 : ∀ x ∈ p0, x.block < W.heap.size := fun x hx => hW'.lt x (by simp [hx])
  refine (ctr_calls Tryd.func4 (by kernel_rfl) (by kernel_rfl) (c4 x0.1 (okY_of ok0.1.2)) (RL.cons hR0 RL.nil) htab).mono fun e W' ⟨he, bel⟩ => ?_
  subst he
  exact ⟨_, rfl, _, _, _, [], _, [], hW', trodAll_mk1 (shut_bool Tryd.underlying4 _), (trodAll_cons_mk (Below.trod laidOut (by kernel_rfl) (of_decide_eq_true (by kernel_rfl)) h0 bel hl0) trodAll_mk0), rfl, bel.frame _, fun h => by cases h⟩
theorem f_inPlace : (Rows.fnBookTextsRow.inPlace == Tryd.prog.inPlace 4) = true := by kernel_rfl
theorem f_unf : (Rows.fnBookTextsRow.unfollowed == Tryd.prog.unfollowed 4) = true := by kernel_rfl
theorem f_rec : (Rows.fnBookTextsRow.recurses == Tryd.prog.recurses 4) = true := by kernel_rfl
theorem f_named : (Rows.fnBookTextsRow.named == Tryd.prog.varsNamed 4) = true := by kernel_rfl
theorem f_maps : mapsRowed Tryd.prog = true := by kernel_rfl
theorem closed : joinedFacts Tryd.prog 4 Tryd.f4 (OpenSpec.ofChange Rows.fnBookTextsSpec).bare Rows.fnBookTextsRow = true := by
  unfold joinedFacts
  rw [f_inPlace, f_unf, f_rec, f_named, f_maps, laidOut]
  kernel_rfl
theorem g_wf : Rows.fnBookTextsRow.wfByText (OpenSpec.ofChange Rows.fnBookTextsSpec) = true := by kernel_rfl
theorem g_goes : false = Rows.fnBookTextsRow.goesBy Tryd.prog := by kernel_rfl
theorem g_looks : true = Tryd.prog.looks [] := by kernel_rfl
theorem g_main : Tryd.prog.mainIs = some (true, "aa9320ed79a2ded371067b009930042670d8f7db50d005a98a3972c71de6a50c".toList) := by kernel_rfl
theorem g_wrap : Tryd.f4.isWrapper Tryd.prog Rows.fnBookTextsRow.wrapper Rows.fnBookTextsRow.mainSum := by unfold Func.isWrapper; first | (rw [if_pos (by decide +kernel)]; kernel_rfl) | (rw [if_neg (by decide +kernel)]; exact ⟨rfl, rfl⟩)
theorem g_nm : Tryd.prog.funcNamed Rows.fnBookTextsRow.func = some 4 := by kernel_rfl
theorem over : Rows.FnBookTextsSaid :=
  OpenClaim.holds_of_cond 4 Tryd.f4 rfl rfl rfl rfl rfl rfl rfl ⟨rfl, rfl, rfl, rfl, rfl⟩ rfl rfl rfl rfl rfl g_nm Tryd.func4 closed
    (of_decide_eq_true (by kernel_rfl)) g_wrap
    (fun os started H enc _ F0 => by rw [OpenClaim.pre_eq_preRow]; exact lifted os started H enc F0)

theorem proved : Rows.FnBookTextsCardSaid :=
  Claim7.holds_tied_plain_at .later [] [.data, .pinned] true (true, "aa9320ed79a2ded371067b009930042670d8f7db50d005a98a3972c71de6a50c") true
    over (fun _ h => by cases h) g_wf (fun _ h => by cases h) fnBookTexts_row_tie rfl ⟨rfl, rfl⟩ g_main rfl
    (fun f fn hf hfn => by
      obtain rfl : f = 4 := Option.some.inj ((show Tryd.prog.funcNamed "loop.example/palim/laws.FnBookTexts" = some 4 by kernel_rfl).symm.trans hf) |>.symm
      obtain rfl : fn = Tryd.f4 := (Option.some.inj (Tryd.func4.symm.trans hfn)).symm
      refine ⟨g_looks, fun j t ht => ?_⟩
      rw [Tryd.params4] at ht
      have hm := Array.mem_of_getElem? ht
      have hall : (#[22] : Array Nat).all (fun t => !Tryd.prog.wantsStandIn t) = true := by kernel_rfl
      have := Array.all_eq_true_iff_forall_mem.1 hall t hm
      exact (show Tryd.prog.wantsStandIn t = false from by simpa using this))
    g_goes
#print axioms proved
end Go.Proofs.YtkjnijddbiconaaDoor.fnBookTexts
namespace Go.Proofs.YtkjnijddbiconaaDoor
/-- The card, under a short name, for the claim. -/
theorem fnBookTexts_holds : Rows.FnBookTextsCardSaid := fnBookTexts.proved
end Go.Proofs.YtkjnijddbiconaaDoor
