/- FnExactCoreBook: for all arguments the law says true, and every argument reads behind the call as before; the card. -/
import Derived.Test.YtkjnijddbiconaaGreatDoorRows
import Derived.Test.YtkjnijddbiconaaGreatDoorTie
import Derived.Test.YtkjnijddbiconaaGreatDoorCards
import Derived.Test.YtkjnijddbiconaaGreatDoorK9
import Derived.Test.YtkjnijddbiconaaGreatDoorEvC
import Derived.Test.YtkjnijddbiconaaGreatDoorShelf
import Derived.ProofKit
import Derived.SevenTiedAt
import Derived.JoinedCond
import Derived.Stop.Joined
import Derived.Lay
namespace Go.Proofs.YtkjnijddbiconaaGreatDoor.fnExactCoreBook
open Go Go.ChangeShapes Go.WideShapes Go.ChangeAt Go.RowKit Go.Proofs.YtkjnijddbiconaaGreatDoor.Ev
set_option linter.unusedVariables false
set_option maxRecDepth 100000
theorem own : ownKnob Tryz.prog.godebug = none := by kernel_rfl
theorem laidOut : laidOutB Tryz.prog = true := by kernel_rfl
/-- A world that meets the condition: the one that the program's own start has laid. -/
noncomputable def laidWorld (os : Os) : World := World.laidAll Tryz.prog os Rows.fnExactCoreBookRow.laid
theorem laid_met (os : Os) (args : Array Value) : laidMetH Tryz.prog Rows.fnExactCoreBookRow.laid ((laidWorld os).forCall (fun _ _ => 0) ⟨#[], args, []⟩).memory := by
  rw [MakeChecks.laidMetH_plain _ _ _ (by kernel_rfl)]
  exact laidMet_laidAll _ (by kernel_rfl) (by kernel_rfl)
theorem witness_row (os : Os) {H : Type} (enc : TypeId × Value → H) :
    (OpenSpec.ofChange Rows.fnExactCoreBookSpec).preRow enc Tryz.prog Tryz.f7 Rows.fnExactCoreBookRow.domain false Rows.fnExactCoreBookRow.laid ((laidWorld os).forCall (fun _ _ => 0) ⟨#[], #[.agg #[.slice none 0 0, .slice none 0 0, .slice none 0 0], .agg #[.int .i64 0, .slice none 0 0, .slice none 0 0, .slice none 0 0, .bool false, .slice none 0 0, .int .i64 0]], []⟩).memory #[.agg #[.slice none 0 0, .slice none 0 0, .slice none 0 0], .agg #[.int .i64 0, .slice none 0 0, .slice none 0 0, .slice none 0 0, .bool false, .slice none 0 0, .int .i64 0]] := by
  have hw : (DataW.whole enc Tryz.prog ((laidWorld os).forCall (fun _ _ => 0) ⟨#[], #[.agg #[.slice none 0 0, .slice none 0 0, .slice none 0 0], .agg #[.int .i64 0, .slice none 0 0, .slice none 0 0, .slice none 0 0, .bool false, .slice none 0 0, .int .i64 0]], []⟩).memory Tryz.f7.params.toList (OpenSpec.ofChange Rows.fnExactCoreBookSpec).vars false #[.agg #[.slice none 0 0, .slice none 0 0, .slice none 0 0], .agg #[.int .i64 0, .slice none 0 0, .slice none 0 0, .slice none 0 0, .bool false, .slice none 0 0, .int .i64 0]].toList 8).isSome = true := by kernel_rfl
  obtain ⟨x, hx⟩ := Option.isSome_iff_exists.1 hw
  exact OpenSpec.preRow_of_cond 8 hx rfl (fun k hk => by cases hk) (by kernel_rfl) (laid_met os _)
theorem lifted (os : Os) (started : os.Started) (H : Type) (enc : TypeId × Value → H) (F : Stop.Interp) :
    ReturnsInHanded {} Tryz.checked os 7 .any ((OpenSpec.ofChange Rows.fnExactCoreBookSpec).preRow enc Tryz.prog Tryz.f7 Rows.fnExactCoreBookRow.domain false Rows.fnExactCoreBookRow.laid) (((OpenSpec.ofChange Rows.fnExactCoreBookSpec).at F).post enc Tryz.prog Tryz.f7 false true false false) := by
  refine returnsInHanded_of_row (C := Tryz.checked) (s := OpenSpec.ofChange Rows.fnExactCoreBookSpec) own started (by kernel_rfl) Tryz.func7
    (witness_row_at (enc := enc) (C := Tryz.checked) false (laidWorld os) #[.agg #[.slice none 0 0, .slice none 0 0, .slice none 0 0], .agg #[.int .i64 0, .slice none 0 0, .slice none 0 0, .slice none 0 0, .bool false, .slice none 0 0, .int .i64 0]] (World.laidAll_os _ _ _) (by kernel_rfl) (by kernel_rfl) (by kernel_rfl) (witness_row os enc)) ?_
  intro W base args ds gs before hval0 hW _ _ hsz0 hL hsh _
  have hval : ∀ (j : Nat) t v, Tryz.f7.params[j]? = some t → args[j]? = some v → Value.okWide Tryz.prog W .any base t v := hval0
  have hW' := hW
  obtain ⟨p, q, hA0, hV, rfl, hfz, hnd⟩ := hW
  have hA : DataW.TrodAll enc Tryz.prog W 0 (fun _ => true) true Tryz.f7.params.toList args.toList ds p := hA0
  rw [Tryz.params7] at hA hval
  have htab : TabOK (SH W) := fun _ _ => trivial
  obtain ⟨v0, vs0, d0, ds0, p0, q0, hargs, rfl, rfl, h0, r0⟩ := trodAll_cons hA
  obtain ⟨v1, vs1, d1, ds1, p1, q1, rfl, rfl, rfl, h1, r1⟩ := trodAll_cons r0
  obtain ⟨rfl, rfl, rfl⟩ := trodAll_nil r1
  obtain rfl : args = #[v0, v1] := by cases args; simp_all
  obtain ⟨rfl, rfl⟩ := trodVars_none hV
  obtain ⟨x0, hR0, ok0⟩ := arg_read (fun _ => none) (d := 8) (sk := [.slc [.str], .slc [.str], .slc [.int .i64, .int .i64, .str]]) (by kernel_rfl) (agg := true) (by kernel_rfl) (hval 0 48 v0 rfl rfl) h0
  have hl0 : ∀ x ∈ p0, x.block < W.heap.size := fun x hx => hW'.lt x (by simp [hx])
  obtain ⟨x1, hR1, ok1⟩ := arg_read (fun _ => none) (d := 8) (sk := [.cell (.int .i64), .slc [.str, .int .i64, .str, .int .i64, .int .i64, .int .i64, .int .i64, .int .i64, .int .i64, .int .i64, .int .i64, .int .i64, .int .i64, .int .i64, .int .i64, .int .i64, .int .i64, .int .i64, .int .i64, .int .i64, .int .i64, .int .i64, .int .i64, .int .i64, .int .i64, .int .i64, .int .i64, .int .i64, .int .i64, .int .i64, .bool], .slc [.int .i64, .int .i64, .int .i64], .slc [.int .i64, .int .i64, .int .i64], .cell .bool, .slc [.int .i64], .cell (.int .i64)]) (by kernel_rfl) (agg := true) (by kernel_rfl) (hval 1 27 v1 rfl rfl) h1
  have hl1 : ∀ x ∈ p1, x.block < W.heap.size := fun x hx => hW'.lt x (by simp [hx])
  refine (ctr_calls Tryz.func7 (by kernel_rfl) (by kernel_rfl) (c7 x0.1 x0.2.1 x0.2.2.1 x1.1 x1.2.1 x1.2.2.1 x1.2.2.2.1 x1.2.2.2.2.1 x1.2.2.2.2.2.1 x1.2.2.2.2.2.2.1 ⟨ok0.1, ok0.2.1, ok0.2.2.1⟩ ⟨ok1.2.1, ok1.2.2.1.1, ok1.2.2.2.1.1, ok1.2.2.2.2.2.1.1⟩) (RL.cons hR0 (RL.cons hR1 RL.nil)) htab).mono fun e W' ⟨he, bel⟩ => ?_
  subst he
  exact ⟨_, rfl, _, _, _, [], _, [], hW', trodAll_mk1 (shut_bool Tryz.underlying4 _), (trodAll_cons_mk (Below.trod laidOut (by kernel_rfl) (of_decide_eq_true (by kernel_rfl)) h0 bel hl0) (trodAll_cons_mk (Below.trod laidOut (by kernel_rfl) (of_decide_eq_true (by kernel_rfl)) h1 bel hl1) trodAll_mk0)), rfl, bel.frame _, fun h => by cases h⟩
theorem f_inPlace : (Rows.fnExactCoreBookRow.inPlace == Tryz.prog.inPlace 7) = true := by kernel_rfl
theorem f_unf : (Rows.fnExactCoreBookRow.unfollowed == Tryz.prog.unfollowed 7) = true := by kernel_rfl
theorem f_rec : (Rows.fnExactCoreBookRow.recurses == Tryz.prog.recurses 7) = true := by kernel_rfl
theorem f_named : (Rows.fnExactCoreBookRow.named == Tryz.prog.varsNamed 7) = true := by kernel_rfl
theorem f_maps : mapsRowed Tryz.prog = true := by kernel_rfl
theorem closed : joinedFacts Tryz.prog 7 Tryz.f7 (OpenSpec.ofChange Rows.fnExactCoreBookSpec).bare Rows.fnExactCoreBookRow = true := by
  unfold joinedFacts
  rw [f_inPlace, f_unf, f_rec, f_named, f_maps, laidOut]
  kernel_rfl
theorem g_wf : Rows.fnExactCoreBookRow.wfByText (OpenSpec.ofChange Rows.fnExactCoreBookSpec) = true := by kernel_rfl
theorem g_goes : false = Rows.fnExactCoreBookRow.goesBy Tryz.prog := by kernel_rfl
theorem g_looks : true = Tryz.prog.looks [] := by kernel_rfl
theorem g_main : Tryz.prog.mainIs = some (true, "9ab3e86f8e970454aa777e722d36d1763b5b05fa7dd1187f33d51644d53b969f".toList) := by kernel_rfl
theorem g_wrap : Tryz.f7.isWrapper Tryz.prog Rows.fnExactCoreBookRow.wrapper Rows.fnExactCoreBookRow.mainSum := by unfold Func.isWrapper; first | (rw [if_pos (by decide +kernel)]; kernel_rfl) | (rw [if_neg (by decide +kernel)]; exact ⟨rfl, rfl⟩)
theorem g_nm : Tryz.prog.funcNamed Rows.fnExactCoreBookRow.func = some 7 := by kernel_rfl
theorem over : Rows.FnExactCoreBookSaid :=
  OpenClaim.holds_of_cond 7 Tryz.f7 rfl rfl rfl rfl rfl rfl rfl ⟨rfl, rfl, rfl, rfl, rfl⟩ rfl rfl rfl rfl rfl g_nm Tryz.func7 closed
    (of_decide_eq_true (by kernel_rfl)) g_wrap
    (fun os started H enc _ F0 => by rw [OpenClaim.pre_eq_preRow]; exact lifted os started H enc F0)

theorem proved : Rows.FnExactCoreBookCardSaid :=
  Claim7.holds_tied_plain_at .later [] [.data, .pinned] true (true, "9ab3e86f8e970454aa777e722d36d1763b5b05fa7dd1187f33d51644d53b969f") true
    over (fun _ h => by cases h) g_wf (fun _ h => by cases h) fnExactCoreBook_row_tie rfl ⟨rfl, rfl⟩ g_main rfl
    (fun f fn hf hfn => by
      obtain rfl : f = 7 := Option.some.inj ((show Tryz.prog.funcNamed "loop.example/palim/laws.FnExactCoreBook" = some 7 by kernel_rfl).symm.trans hf) |>.symm
      obtain rfl : fn = Tryz.f7 := (Option.some.inj (Tryz.func7.symm.trans hfn)).symm
      refine ⟨g_looks, fun j t ht => ?_⟩
      rw [Tryz.params7] at ht
      have hm := Array.mem_of_getElem? ht
      have hall : (#[48, 27] : Array Nat).all (fun t => !Tryz.prog.wantsStandIn t) = true := by kernel_rfl
      have := Array.all_eq_true_iff_forall_mem.1 hall t hm
      exact (show Tryz.prog.wantsStandIn t = false from by simpa using this))
    g_goes
#print axioms proved
end Go.Proofs.YtkjnijddbiconaaGreatDoor.fnExactCoreBook
namespace Go.Proofs.YtkjnijddbiconaaGreatDoor
/-- The card, under a short name, for the claim. -/
theorem fnExactCoreBook_holds : Rows.FnExactCoreBookCardSaid := fnExactCoreBook.proved
end Go.Proofs.YtkjnijddbiconaaGreatDoor
