/- FnDdtFind: for all arguments the law says true, and every argument reads behind the call as before; the card. -/
import Derived.Test.YtkjnijddbiconaaGreatDoorRows
import Derived.Test.YtkjnijddbiconaaGreatDoorTie
import Derived.Test.YtkjnijddbiconaaGreatDoorCards
import Derived.Test.YtkjnijddbiconaaGreatDoorF3
import Derived.Test.YtkjnijddbiconaaGreatDoorEvC
import Derived.Test.YtkjnijddbiconaaGreatDoorShelf
import Derived.ProofKit
import Derived.SevenTiedAt
import Derived.JoinedCond
import Derived.Stop.Joined
import Derived.Lay
import Derived.Stop.LaidErr
import Derived.LaidLaws
namespace Go.Proofs.YtkjnijddbiconaaGreatDoor.fnDdtFind
open Go Go.ChangeShapes Go.WideShapes Go.ChangeAt Go.RowKit Go.Proofs.YtkjnijddbiconaaGreatDoor.Ev
set_option linter.unusedVariables false
set_option maxRecDepth 100000
theorem own : ownKnob Tryz.prog.godebug = none := by kernel_rfl
theorem laidOut : laidOutB Tryz.prog = true := by kernel_rfl
theorem gNum : Tryz.prog.globalNamed "internal/strconv.uint64pow10" = some 5 := by kernel_rfl
theorem gType : (Tryz.prog.globals[5]?).map (·.type) = some 340 := by kernel_rfl
theorem cellsE : Tryz.prog.cellsOf 241 = 1 := by kernel_rfl
theorem cellsT : Tryz.prog.cellsOf 340 = 20 := by kernel_rfl
/-- What the row's condition says of the table. -/
theorem tab_of {W : World} (h : laidMetH Tryz.prog Rows.fnDdtFindRow.laid W) : W.var? Tryz.prog "internal/strconv.uint64pow10" = some (tabPow.map fun z => Value.int .u64 z).toArray := by
  rw [MakeChecks.laidMetH_plain _ _ _ (by kernel_rfl)] at h
  obtain ⟨ps, ⟨_, _, _, _, _, _, _, _, _, _, ⟨_, _, _, _, _, _, _, _, _, _, ⟨g', t', cs, fuel, p, q, hg', ht', hvar, hd, _⟩, _⟩, _⟩, _⟩ := h
  obtain rfl := Option.some.inj (gNum.symm.trans hg')
  obtain rfl := Option.some.inj (gType.symm.trans ht')
  rw [hvar, ← Lib.cells_of_tab (zs := tabPow) Tryz.underlying340 Tryz.underlying241 cellsE cellsT hd]
theorem star : "*" ++ "errors.errorString" = "*errors.errorString" := by decide
theorem rowE (u : TypeId) (h : Tryz.prog.typeName? 3 u = some "*errors.errorString") : u = 335 :=
  Go.typeName_ptr_named (nm := "errors.errorString") (by rw [star]; kernel_rfl) (by kernel_rfl) (by decide) u (by rw [star]; exact h)
theorem cells_es : Tryz.prog.cellsOf 337 = 1 := by kernel_rfl
theorem cells_st : Tryz.prog.cellsOf 9 = 1 := by kernel_rfl
theorem gErrSyntax : Tryz.prog.globalNamed "strconv.ErrSyntax" = some 1 := by kernel_rfl
theorem tErrSyntax : (Tryz.prog.globals[1]?).map (·.type) = some 198 := by kernel_rfl
theorem of_ErrSyntax {W : World} (h : laidMetH Tryz.prog Rows.fnDdtFindRow.laid W) : ∃ t p, W.var? Tryz.prog "strconv.ErrSyntax" = some #[.iface t p] := by
  rw [MakeChecks.laidMetH_plain _ _ _ (by kernel_rfl)] at h
  obtain ⟨a0, s0, hv0, _⟩ := laid_sentinel h.tail.tail.tail.tail.tail gErrSyntax tErrSyntax Tryz.underlying198 rowE Tryz.underlying335 Tryz.underlying337 rfl rfl Tryz.underlying9 cells_es cells_st
  exact ⟨_, _, hv0⟩
theorem gErrRange : Tryz.prog.globalNamed "strconv.ErrRange" = some 2 := by kernel_rfl
theorem tErrRange : (Tryz.prog.globals[2]?).map (·.type) = some 198 := by kernel_rfl
theorem of_ErrRange {W : World} (h : laidMetH Tryz.prog Rows.fnDdtFindRow.laid W) : ∃ t p, W.var? Tryz.prog "strconv.ErrRange" = some #[.iface t p] := by
  rw [MakeChecks.laidMetH_plain _ _ _ (by kernel_rfl)] at h
  obtain ⟨a0, s0, hv0, _⟩ := laid_sentinel h.tail.tail.tail.tail gErrRange tErrRange Tryz.underlying198 rowE Tryz.underlying335 Tryz.underlying337 rfl rfl Tryz.underlying9 cells_es cells_st
  exact ⟨_, _, hv0⟩
/-- A world that meets the condition: the one that the program's own start has laid. -/
noncomputable def laidWorld (os : Os) : World := World.laidAll Tryz.prog os Rows.fnDdtFindRow.laid
theorem laid_met (os : Os) (args : Array Value) : laidMetH Tryz.prog Rows.fnDdtFindRow.laid ((laidWorld os).forCall (fun _ _ => 0) ⟨#[], args, []⟩).memory := by
  rw [MakeChecks.laidMetH_plain _ _ _ (by kernel_rfl)]
  exact laidMet_laidAll _ (by kernel_rfl) (by kernel_rfl)
theorem witness_row (os : Os) {H : Type} (enc : TypeId × Value → H) :
    (OpenSpec.ofChange Rows.fnDdtFindSpec).preRow enc Tryz.prog Tryz.f10 Rows.fnDdtFindRow.domain false Rows.fnDdtFindRow.laid ((laidWorld os).forCall (fun _ _ => 0) ⟨#[], #[.slice none 0 0], []⟩).memory #[.slice none 0 0] := by
  have hw : (DataW.whole enc Tryz.prog ((laidWorld os).forCall (fun _ _ => 0) ⟨#[], #[.slice none 0 0], []⟩).memory Tryz.f10.params.toList (OpenSpec.ofChange Rows.fnDdtFindSpec).vars false #[.slice none 0 0].toList 8).isSome = true := by kernel_rfl
  obtain ⟨x, hx⟩ := Option.isSome_iff_exists.1 hw
  exact OpenSpec.preRow_of_cond 8 hx rfl (fun k hk => by cases hk) (by kernel_rfl) (laid_met os _)
theorem lifted (os : Os) (started : os.Started) (H : Type) (enc : TypeId × Value → H) (F : Stop.Interp) :
    ReturnsInHanded {} Tryz.checked os 10 .any ((OpenSpec.ofChange Rows.fnDdtFindSpec).preRow enc Tryz.prog Tryz.f10 Rows.fnDdtFindRow.domain false Rows.fnDdtFindRow.laid) (((OpenSpec.ofChange Rows.fnDdtFindSpec).at F).post enc Tryz.prog Tryz.f10 false true false false) := by
  refine returnsInHanded_of_row (C := Tryz.checked) (s := OpenSpec.ofChange Rows.fnDdtFindSpec) own started (by kernel_rfl) Tryz.func10
    (witness_row_at (enc := enc) (C := Tryz.checked) false (laidWorld os) #[.slice none 0 0] (World.laidAll_os _ _ _) (by kernel_rfl) (by kernel_rfl) (by kernel_rfl) (witness_row os enc)) ?_
  intro W base args ds gs before hval0 hW _ _ hsz0 hL hsh _
  have hval : ∀ (j : Nat) t v, Tryz.f10.params[j]? = some t → args[j]? = some v → Value.okWide Tryz.prog W .any base t v := hval0
  have hW' := hW
  obtain ⟨p, q, hA0, hV, rfl, hfz, hnd⟩ := hW
  have hA : DataW.TrodAll enc Tryz.prog W 0 (fun _ => true) true Tryz.f10.params.toList args.toList ds p := hA0
  rw [Tryz.params10] at hA hval
  have htab : TabOK (SH W) := fun w hw => by
    have hw' : ∀ (b : Nat) (x : Obj), W.heap[b]? = some x → w.heap[b]? = some x := hw
    obtain ⟨m, hm⟩ := Tryz.laysM219.s1_3 W hsh
    exact ⟨var_frame hw' (tab_of hL), ⟨m, cell_frame hw' hm⟩, (let ⟨t, p, e⟩ := of_ErrSyntax hL; ⟨t, p, var_frame hw' e⟩), (let ⟨t, p, e⟩ := of_ErrRange hL; ⟨t, p, var_frame hw' e⟩)⟩
  obtain ⟨v0, vs0, d0, ds0, p0, q0, hargs, rfl, rfl, h0, r0⟩ := trodAll_cons hA
  obtain ⟨rfl, rfl, rfl⟩ := trodAll_nil r0
  obtain rfl : args = #[v0] := by cases args; simp_all
  obtain ⟨rfl, rfl⟩ := trodVars_none hV
  obtain ⟨x0, hR0, ok0⟩ := arg_read (fun _ => none) (d := 8) (sk := [.slc [.int .u8]]) (by kernel_rfl) (agg := false) (by kernel_rfl) (hval 0 67 v0 rfl rfl) h0
  have hl0 : ∀ x ∈ p0, x.block < W.heap.size := fun x hx => hW'.lt x (by simp [hx])
  refine (ctr_calls Tryz.func10 (by kernel_rfl) (by kernel_rfl) (c10 x0.1 (okB_of ok0.1.2)) (RL.cons hR0 RL.nil) htab).mono fun e W' ⟨he, bel⟩ => ?_
  subst he
  exact ⟨_, rfl, _, _, _, [], _, [], hW', trodAll_mk1 (shut_bool Tryz.underlying4 _), (trodAll_cons_mk (Below.trod laidOut (by kernel_rfl) (of_decide_eq_true (by kernel_rfl)) h0 bel hl0) trodAll_mk0), rfl, bel.frame _, fun h => by cases h⟩
theorem f_inPlace : (Rows.fnDdtFindRow.inPlace == Tryz.prog.inPlace 10) = true := by kernel_rfl
theorem f_unf : (Rows.fnDdtFindRow.unfollowed == Tryz.prog.unfollowed 10) = true := by kernel_rfl
theorem f_rec : (Rows.fnDdtFindRow.recurses == Tryz.prog.recurses 10) = true := by kernel_rfl
theorem f_named : (Rows.fnDdtFindRow.named == Tryz.prog.varsNamed 10) = true := by kernel_rfl
theorem f_maps : mapsRowed Tryz.prog = true := by kernel_rfl
theorem closed : joinedFacts Tryz.prog 10 Tryz.f10 (OpenSpec.ofChange Rows.fnDdtFindSpec).bare Rows.fnDdtFindRow = true := by
  unfold joinedFacts
  rw [f_inPlace, f_unf, f_rec, f_named, f_maps, laidOut]
  kernel_rfl
theorem g_wf : Rows.fnDdtFindRow.wfByText (OpenSpec.ofChange Rows.fnDdtFindSpec) = true := by kernel_rfl
theorem g_goes : false = Rows.fnDdtFindRow.goesBy Tryz.prog := by kernel_rfl
theorem g_looks : true = Tryz.prog.looks [] := by kernel_rfl
theorem g_main : Tryz.prog.mainIs = some (true, "9ab3e86f8e970454aa777e722d36d1763b5b05fa7dd1187f33d51644d53b969f".toList) := by kernel_rfl
theorem g_wrap : Tryz.f10.isWrapper Tryz.prog Rows.fnDdtFindRow.wrapper Rows.fnDdtFindRow.mainSum := by unfold Func.isWrapper; first | (rw [if_pos (by decide +kernel)]; kernel_rfl) | (rw [if_neg (by decide +kernel)]; exact ⟨rfl, rfl⟩)
theorem g_nm : Tryz.prog.funcNamed Rows.fnDdtFindRow.func = some 10 := by kernel_rfl
theorem over : Rows.FnDdtFindSaid :=
  OpenClaim.holds_of_cond 10 Tryz.f10 rfl rfl rfl rfl rfl rfl rfl ⟨rfl, rfl, rfl, rfl, rfl⟩ rfl rfl rfl rfl rfl g_nm Tryz.func10 closed
    (of_decide_eq_true (by kernel_rfl)) g_wrap
    (fun os started H enc _ F0 => by rw [OpenClaim.pre_eq_preRow]; exact lifted os started H enc F0)

theorem proved : Rows.FnDdtFindCardSaid :=
  Claim7.holds_tied_plain_at .later [] [.data, .data, .data, .data, .sentinel, .sentinel, .pinned] true (true, "9ab3e86f8e970454aa777e722d36d1763b5b05fa7dd1187f33d51644d53b969f") true
    over (fun _ h => by cases h) g_wf (fun _ h => by cases h) fnDdtFind_row_tie rfl ⟨rfl, rfl⟩ g_main rfl
    (fun f fn hf hfn => by
      obtain rfl : f = 10 := Option.some.inj ((show Tryz.prog.funcNamed "loop.example/palim/laws.FnDdtFind" = some 10 by kernel_rfl).symm.trans hf) |>.symm
      obtain rfl : fn = Tryz.f10 := (Option.some.inj (Tryz.func10.symm.trans hfn)).symm
      refine ⟨g_looks, fun j t ht => ?_⟩
      rw [Tryz.params10] at ht
      have hm := Array.mem_of_getElem? ht
      have hall : (#[67] : Array Nat).all (fun t => !Tryz.prog.wantsStandIn t) = true := by kernel_rfl
      have := Array.all_eq_true_iff_forall_mem.1 hall t hm
      exact (show Tryz.prog.wantsStandIn t = false from by simpa using this))
    g_goes
#print axioms proved
end Go.Proofs.YtkjnijddbiconaaGreatDoor.fnDdtFind
namespace Go.Proofs.YtkjnijddbiconaaGreatDoor
/-- The card, under a short name, for the claim. -/
theorem fnDdtFind_holds : Rows.FnDdtFindCardSaid := fnDdtFind.proved
end Go.Proofs.YtkjnijddbiconaaGreatDoor
