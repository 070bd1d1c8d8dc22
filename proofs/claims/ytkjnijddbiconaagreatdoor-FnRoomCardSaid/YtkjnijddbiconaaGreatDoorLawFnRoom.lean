/- FnRoom: for all arguments the law says true, and every argument reads behind the call as before; the card. -/
import Derived.Test.YtkjnijddbiconaaGreatDoorRows
import Derived.Test.YtkjnijddbiconaaGreatDoorTie
import Derived.Test.YtkjnijddbiconaaGreatDoorCards
import Derived.Test.YtkjnijddbiconaaGreatDoorWP
import Derived.Test.YtkjnijddbiconaaGreatDoorEvC
import Derived.Test.YtkjnijddbiconaaGreatDoorShelf
import Derived.ProofKit
import Derived.SevenTiedAt
import Derived.JoinedCond
import Derived.Stop.Joined
import Derived.Lay
namespace Go.Proofs.YtkjnijddbiconaaGreatDoor.fnRoom
open Go Go.ChangeShapes Go.WideShapes Go.ChangeAt Go.RowKit Go.Proofs.YtkjnijddbiconaaGreatDoor.Ev
set_option linter.unusedVariables false
set_option maxRecDepth 100000
theorem own : ownKnob Tryz.prog.godebug = none := by kernel_rfl
theorem laidOut : laidOutB Tryz.prog = true := by kernel_rfl
/-- A world that meets the condition: the one that the program's own start has laid. -/
noncomputable def laidWorld (os : Os) : World := World.laidAll Tryz.prog os Rows.fnRoomRow.laid
theorem laid_met (os : Os) (args : Array Value) : laidMetH Tryz.prog Rows.fnRoomRow.laid ((laidWorld os).forCall (fun _ _ => 0) ⟨#[], args, []⟩).memory := by
  rw [MakeChecks.laidMetH_plain _ _ _ (by kernel_rfl)]
  exact laidMet_laidAll _ (by kernel_rfl) (by kernel_rfl)
theorem witness_row (os : Os) {H : Type} (enc : TypeId × Value → H) :
    (OpenSpec.ofChange Rows.fnRoomSpec).preRow enc Tryz.prog Tryz.f9 Rows.fnRoomRow.domain false Rows.fnRoomRow.laid ((laidWorld os).forCall (fun _ _ => 0) ⟨#[], #[.slice none 0 0], []⟩).memory #[.slice none 0 0] := by
  have hw : (DataW.whole enc Tryz.prog ((laidWorld os).forCall (fun _ _ => 0) ⟨#[], #[.slice none 0 0], []⟩).memory Tryz.f9.params.toList (OpenSpec.ofChange Rows.fnRoomSpec).vars false #[.slice none 0 0].toList 8).isSome = true := by kernel_rfl
  obtain ⟨x, hx⟩ := Option.isSome_iff_exists.1 hw
  exact OpenSpec.preRow_of_cond 8 hx rfl (fun k hk => by cases hk) (by kernel_rfl) (laid_met os _)
theorem lifted (os : Os) (started : os.Started) (H : Type) (enc : TypeId × Value → H) (F : Stop.Interp) :
    ReturnsInHanded {} Tryz.checked os 9 .any ((OpenSpec.ofChange Rows.fnRoomSpec).preRow enc Tryz.prog Tryz.f9 Rows.fnRoomRow.domain false Rows.fnRoomRow.laid) (((OpenSpec.ofChange Rows.fnRoomSpec).at F).post enc Tryz.prog Tryz.f9 false true false false) := by
  refine returnsInHanded_of_row (C := Tryz.checked) (s := OpenSpec.ofChange Rows.fnRoomSpec) own started (by kernel_rfl) Tryz.func9
    (witness_row_at (enc := enc) (C := Tryz.checked) false (laidWorld os) #[.slice none 0 0] (World.laidAll_os _ _ _) (by kernel_rfl) (by kernel_rfl) (by kernel_rfl) (witness_row os enc)) ?_
  intro W base args ds gs before hval0 hW _ _ hsz0 hL hsh _
  have hval : ∀ (j : Nat) t v, Tryz.f9.params[j]? = some t → args[j]? = some v → Value.okWide Tryz.prog W .any base t v := hval0
  have hW' := hW
  obtain ⟨p, q, hA0, hV, rfl, hfz, hnd⟩ := hW
  have hA : DataW.TrodAll enc Tryz.prog W 0 (fun _ => true) true Tryz.f9.params.toList args.toList ds p := hA0
  rw [Tryz.params9] at hA hval
  have htab : TabOK (SH W) := fun _ _ => trivial
  obtain ⟨v0, vs0, d0, ds0, p0, q0, hargs, rfl, rfl, h0, r0⟩ := trodAll_cons hA
  obtain ⟨rfl, rfl, rfl⟩ := trodAll_nil r0
  obtain rfl : args = #[v0] := by cases args; simp_all
  obtain ⟨rfl, rfl⟩ := trodVars_none hV
  obtain ⟨x0, hR0, ok0⟩ := arg_read (fun _ => none) (d := 8) (sk := [.slc [.int .u8]]) (by kernel_rfl) (agg := false) (by kernel_rfl) (hval 0 67 v0 rfl rfl) h0
  have hl0 : ∀ x ∈ p0, x.block < W.heap.size := fun x hx => hW'.lt x (by simp [hx])
  refine (ctr_calls Tryz.func9 (by kernel_rfl) (by kernel_rfl) (c9 x0.1 (okY_of ok0.1.2)) (RL.cons hR0 RL.nil) htab).mono fun e W' ⟨he, bel⟩ => ?_
  subst he
  exact ⟨_, rfl, _, _, _, [], _, [], hW', trodAll_mk1 (shut_bool Tryz.underlying4 _), (trodAll_cons_mk (Below.trod laidOut (by kernel_rfl) (of_decide_eq_true (by kernel_rfl)) h0 bel hl0) trodAll_mk0), rfl, bel.frame _, fun h => by cases h⟩
theorem f_inPlace : (Rows.fnRoomRow.inPlace == Tryz.prog.inPlace 9) = true := by kernel_rfl
theorem f_unf : (Rows.fnRoomRow.unfollowed == Tryz.prog.unfollowed 9) = true := by kernel_rfl
theorem f_rec : (Rows.fnRoomRow.recurses == Tryz.prog.recurses 9) = true := by kernel_rfl
theorem f_named : (Rows.fnRoomRow.named == Tryz.prog.varsNamed 9) = true := by kernel_rfl
theorem f_maps : mapsRowed Tryz.prog = true := by kernel_rfl
theorem closed : joinedFacts Tryz.prog 9 Tryz.f9 (OpenSpec.ofChange Rows.fnRoomSpec).bare Rows.fnRoomRow = true := by
  unfold joinedFacts
  rw [f_inPlace, f_unf, f_rec, f_named, f_maps, laidOut]
  kernel_rfl
theorem g_wf : Rows.fnRoomRow.wfByText (OpenSpec.ofChange Rows.fnRoomSpec) = true := by kernel_rfl
theorem g_goes : false = Rows.fnRoomRow.goesBy Tryz.prog := by kernel_rfl
theorem g_looks : true = Tryz.prog.looks [] := by kernel_rfl
theorem g_main : Tryz.prog.mainIs = some (true, "9ab3e86f8e970454aa777e722d36d1763b5b05fa7dd1187f33d51644d53b969f".toList) := by kernel_rfl
theorem g_wrap : Tryz.f9.isWrapper Tryz.prog Rows.fnRoomRow.wrapper Rows.fnRoomRow.mainSum := by unfold Func.isWrapper; first | (rw [if_pos (by decide +kernel)]; kernel_rfl) | (rw [if_neg (by decide +kernel)]; exact ⟨rfl, rfl⟩)
theorem g_nm : Tryz.prog.funcNamed Rows.fnRoomRow.func = some 9 := by kernel_rfl
theorem over : Rows.FnRoomSaid :=
  OpenClaim.holds_of_cond 9 Tryz.f9 rfl rfl rfl rfl rfl rfl rfl ⟨rfl, rfl, rfl, rfl, rfl⟩ rfl rfl rfl rfl rfl g_nm Tryz.func9 closed
    (of_decide_eq_true (by kernel_rfl)) g_wrap
    (fun os started H enc _ F0 => by rw [OpenClaim.pre_eq_preRow]; exact lifted os started H enc F0)

theorem proved : Rows.FnRoomCardSaid :=
  Claim7.holds_tied_plain_at .later [] [.data, .pinned] true (true, "9ab3e86f8e970454aa777e722d36d1763b5b05fa7dd1187f33d51644d53b969f") true
    over (fun _ h => by cases h) g_wf (fun _ h => by cases h) fnRoom_row_tie rfl ⟨rfl, rfl⟩ g_main rfl
    (fun f fn hf hfn => by
      obtain rfl : f = 9 := Option.some.inj ((show Tryz.prog.funcNamed "loop.example/palim/laws.FnRoom" = some 9 by kernel_rfl).symm.trans hf) |>.symm
      obtain rfl : fn = Tryz.f9 := (Option.some.inj (Tryz.func9.symm.trans hfn)).symm
      refine ⟨g_looks, fun j t ht => ?_⟩
      rw [Tryz.params9] at ht
      have hm := Array.mem_of_getElem? ht
      have hall : (#[67] : Array Nat).all (fun t => !Tryz.prog.wantsStandIn t) = true := by kernel_rfl
      have := Array.all_eq_true_iff_forall_mem.1 hall t hm
      exact (show Tryz.prog.wantsStandIn t = false from by simpa using this))
    g_goes
#print axioms proved
end Go.Proofs.YtkjnijddbiconaaGreatDoor.fnRoom
namespace Go.Proofs.YtkjnijddbiconaaGreatDoor
/-- The card, under a short name, for the claim. -/
theorem fnRoom_holds : Rows.FnRoomCardSaid := fnRoom.proved
end Go.Proofs.YtkjnijddbiconaaGreatDoor
