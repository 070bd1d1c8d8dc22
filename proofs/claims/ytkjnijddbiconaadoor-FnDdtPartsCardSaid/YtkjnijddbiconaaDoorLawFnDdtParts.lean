/- FnDdtParts: for all arguments the law says true, and every argument reads behind the call as before; the card. -/
import Derived.Test.YtkjnijddbiconaaDoorRows
import Derived.Test.YtkjnijddbiconaaDoorTie
import Derived.Test.YtkjnijddbiconaaDoorCards
import Derived.Test.YtkjnijddbiconaaDoorP3
import Derived.Test.YtkjnijddbiconaaDoorEvC
import Derived.Test.YtkjnijddbiconaaDoorShelf
import Derived.ProofKit
import Derived.SevenTiedAt
import Derived.JoinedCond
import Derived.Stop.Joined
import Derived.Lay
import Derived.Stop.LaidErr
import Derived.LaidLaws
namespace Go.Proofs.YtkjnijddbiconaaDoor.fnDdtParts
open Go Go.ChangeShapes Go.WideShapes Go.ChangeAt Go.RowKit Go.Proofs.YtkjnijddbiconaaDoor.Ev
set_option linter.unusedVariables false
set_option maxRecDepth 100000
theorem own : ownKnob Tryd.prog.godebug = none := by kernel_rfl
theorem laidOut : laidOutB Tryd.prog = true := by kernel_rfl
theorem gNum : Tryd.prog.globalNamed "internal/strconv.uint64pow10" = some 1 := by kernel_rfl
theorem gType : (Tryd.prog.globals[1]?).map (·.type) = some 178 := by kernel_rfl
theorem cellsE : Tryd.prog.cellsOf 132 = 1 := by kernel_rfl
theorem cellsT : Tryd.prog.cellsOf 178 = 20 := by kernel_rfl
/-- What the row's condition says of the table. -/
theorem tab_of {W : World} (h : laidMetH Tryd.prog Rows.fnDdtPartsRow.laid W) : W.var? Tryd.prog "internal/strconv.uint64pow10" = some (tabPow.map fun z => Value.int .u64 z).toArray := by
  rw [MakeChecks.laidMetH_plain _ _ _ (by kernel_rfl)] at h
  obtain ⟨ps, ⟨_, _, _, _, _, _, _, _, _, _, ⟨_, _, _, _, _, _, _, _, _, _, ⟨g', t', cs, fuel, p, q, hg', ht', hvar, hd, _⟩, _⟩, _⟩, _⟩ := h
  obtain rfl := Option.some.inj (gNum.symm.trans hg')
  obtain rfl := Option.some.inj (gType.symm.trans ht')
  rw [hvar, ← Lib.cells_of_tab (zs := tabPow) Tryd.underlying178 Tryd.underlying132 cellsE cellsT hd]
theorem star : "*" ++ "errors.errorString" = "*errors.errorString" := by decide
theorem rowE (u : TypeId) (h : Tryd.prog.typeName? 3 u = some "*errors.errorString") : u = 199 :=
  Go.typeName_ptr_named (nm := "errors.errorString") (by rw [star]; kernel_rfl) (by kernel_rfl) (by decide) u (by rw [star]; exact h)
theorem cells_es : Tryd.prog.cellsOf 201 = 1 := by kernel_rfl
theorem cells_st : Tryd.prog.cellsOf 9 = 1 := by kernel_rfl
theorem gErrSyntax : Tryd.prog.globalNamed "strconv.ErrSyntax" = some 2 := by kernel_rfl
theorem tErrSyntax : (Tryd.prog.globals[2]?).map (·.type) = some 103 := by kernel_rfl
theorem of_ErrSyntax {W : World} (h : laidMetH Tryd.prog Rows.fnDdtPartsRow.laid W) : ∃ t p, W.var? Tryd.prog "strconv.ErrSyntax" = some #[.iface t p] := by
  rw [MakeChecks.laidMetH_plain _ _ _ (by kernel_rfl)] at h
  obtain ⟨a0, s0, hv0, _⟩ := laid_sentinel h.tail.tail.tail.tail.tail gErrSyntax tErrSyntax Tryd.underlying103 rowE Tryd.underlying199 Tryd.underlying201 rfl rfl Tryd.underlying9 cells_es cells_st
  exact ⟨_, _, hv0⟩
theorem gErrRange : Tryd.prog.globalNamed "strconv.ErrRange" = some 3 := by kernel_rfl
theorem tErrRange : (Tryd.prog.globals[3]?).map (·.type) = some 103 := by kernel_rfl
theorem of_ErrRange {W : World} (h : laidMetH Tryd.prog Rows.fnDdtPartsRow.laid W) : ∃ t p, W.var? Tryd.prog "strconv.ErrRange" = some #[.iface t p] := by
  rw [MakeChecks.laidMetH_plain _ _ _ (by kernel_rfl)] at h
  obtain ⟨a0, s0, hv0, _⟩ := laid_sentinel h.tail.tail.tail.tail gErrRange tErrRange Tryd.underlying103 rowE Tryd.underlying199 Tryd.underlying201 rfl rfl Tryd.underlying9 cells_es cells_st
  exact ⟨_, _, hv0⟩
/-- A world that meets the condition: the one that the program's own start has laid. -/
noncomputable def laidWorld (os : Os) : World := World.laidAll Tryd.prog os Rows.fnDdtPartsRow.laid
theorem laid_met (os : Os) (args : Array Value) : laidMetH Tryd.prog Rows.fnDdtPartsRow.laid ((laidWorld os).forCall (fun _ _ => 0) ⟨#[], args, []⟩).memory := by
  rw [MakeChecks.laidMetH_plain _ _ _ (by kernel_rfl)]
  exact laidMet_laidAll _ (by kernel_rfl) (by kernel_rfl)
theorem witness_row (os : Os) {H : Type} (enc : TypeId × Value → H) :
    (OpenSpec.ofChange Rows.fnDdtPartsSpec).preRow enc Tryd.prog Tryd.f5 Rows.fnDdtPartsRow.domain false Rows.fnDdtPartsRow.laid ((laidWorld os).forCall (fun _ _ => 0) ⟨#[], #[.slice none 0 0, .slice none 0 0], []⟩).memory #[.slice none 0 0, .slice none 0 0] := by
  have hw : (DataW.whole enc Tryd.prog ((laidWorld os).forCall (fun _ _ => 0) ⟨#[], #[.slice none 0 0, .slice none 0 0], []⟩).memory Tryd.f5.params.toList (OpenSpec.ofChange Rows.fnDdtPartsSpec).vars false #[.slice none 0 0, .slice none 0 0].toList 8).isSome = true := by kernel_rfl
  obtain ⟨x, hx⟩ := Option.isSome_iff_exists.1 hw
  exact OpenSpec.preRow_of_cond 8 hx rfl (fun k hk => by cases hk) (by kernel_rfl) (laid_met os _)
theorem lifted (os : Os) (started : os.Started) (H : Type) (enc : TypeId × Value → H) (F : Stop.Interp) :
    ReturnsInHanded {} Tryd.checked os 5 .any ((OpenSpec.ofChange Rows.fnDdtPartsSpec).preRow enc Tryd.prog Tryd.f5 Rows.fnDdtPartsRow.domain false Rows.fnDdtPartsRow.laid) (((OpenSpec.ofChange Rows.fnDdtPartsSpec).at F).post enc Tryd.prog Tryd.f5 false true false false) := by
  refine returnsInHanded_of_row (C := Tryd.checked) (s := OpenSpec.ofChange Rows.fnDdtPartsSpec) own started (by kernel_rfl) Tryd.func5
    (witness_row_at (enc := enc) (C := Tryd.checked) false (laidWorld os) #[.slice none 0 0, .slice none 0 0] (World.laidAll_os _ _ _) (by kernel_rfl) (by kernel_rfl) (by kernel_rfl) (witness_row os enc)) ?_
  intro W base args ds gs before hval0 hW _ _ hsz0 hL hsh _
  have hval : ∀ (j : Nat) t v, Tryd.f5.params[j]? = some t → args[j]? = some v → Value.okWide Tryd.prog W .any base t v := hval0
  have hW' := hW
  obtain ⟨p, q, hA0, hV, rfl, hfz, hnd⟩ := hW
  have hA : DataW.TrodAll enc Tryd.prog W 0 (fun _ => true) true Tryd.f5.params.toList args.toList ds p := hA0
  rw [Tryd.params5] at hA hval
  have htab : TabOK (SH W) := fun w hw => by
    have hw' : ∀ (b : Nat) (x : Obj), W.heap[b]? = some x → w.heap[b]? = some x := hw
    obtain ⟨m, hm⟩ := Tryd.laysM219.s1_3 W hsh
    exact ⟨var_frame hw' (tab_of hL), ⟨m, cell_frame hw' hm⟩, (let ⟨t, p, e⟩ := of_ErrSyntax hL; ⟨t, p, var_frame hw' e⟩), (let ⟨t, p, e⟩ := of_ErrRange hL; ⟨t, p, var_frame hw' e⟩)⟩
  obtain ⟨v0, vs0, d0, ds0, p0, q0, hargs, rfl, rfl, h0, r0⟩ := trodAll_cons hA
  obtain ⟨v1, vs1, d1, ds1, p1, q1, rfl, rfl, rfl, h1, r1⟩ := trodAll_cons r0
  obtain ⟨rfl, rfl, rfl⟩ := trodAll_nil r1
  obtain rfl : args = #[v0, v1] := by cases args; simp_all
  obtain ⟨rfl, rfl⟩ := trodVars_none hV
  obtain ⟨x0, hR0, ok0⟩ := arg_read (fun _ => none) (d := 8) (sk := [.slc [.int .u8]]) (by kernel_rfl) (agg := false) (by kernel_rfl) (hval 0 22 v0 rfl rfl) h0
  have hl0 : ∀ x ∈ p0, x.block < W.heap.size := fun x hx => hW'.lt x (by simp [hx])
  obtain ⟨x1, hR1, ok1⟩ := arg_read (fun _ => none) (d := 8) (sk := [.slc [.int .u8]]) (by kernel_rfl) (agg := false) (by kernel_rfl) (hval 1 22 v1 rfl rfl) h1
  have hl1 : ∀ x ∈ p1, x.block < W.heap.size := fun x hx => hW'.lt x (by simp [hx])
  refine (ctr_calls Tryd.func5 (by kernel_rfl) (by kernel_rfl) (c5 x0.1 x1.1 (okB_of ok0.1.2) (okB_of ok1.1.2)) (RL.cons hR0 (RL.cons hR1 RL.nil)) htab).mono fun e W' ⟨he, bel⟩ => ?_
  subst he
  exact ⟨_, rfl, _, _, _, [], _, [], hW', trodAll_mk1 (shut_bool Tryd.underlying4 _), (trodAll_cons_mk (Below.trod laidOut (by kernel_rfl) (of_decide_eq_true (by kernel_rfl)) h0 bel hl0) (trodAll_cons_mk (Below.trod laidOut (by kernel_rfl) (of_decide_eq_true (by kernel_rfl)) h1 bel hl1) trodAll_mk0)), rfl, bel.frame _, fun h => by cases h⟩
theorem f_inPlace : (Rows.fnDdtPartsRow.inPlace == Tryd.prog.inPlace 5) = true := by kernel_rfl
theorem f_unf : (Rows.fnDdtPartsRow.unfollowed == Tryd.prog.unfollowed 5) = true := by kernel_rfl
theorem f_rec : (Rows.fnDdtPartsRow.recurses == Tryd.prog.recurses 5) = true := by kernel_rfl
theorem f_named : (Rows.fnDdtPartsRow.named == Tryd.prog.varsNamed 5) = true := by kernel_rfl
theorem f_maps : mapsRowed Tryd.prog = true := by kernel_rfl
theorem closed : joinedFacts Tryd.prog 5 Tryd.f5 (OpenSpec.ofChange Rows.fnDdtPartsSpec).bare Rows.fnDdtPartsRow = true := by
  unfold joinedFacts
  rw [f_inPlace, f_unf, f_rec, f_named, f_maps, laidOut]
  kernel_rfl
theorem g_wf : Rows.fnDdtPartsRow.wfByText (OpenSpec.ofChange Rows.fnDdtPartsSpec) = true := by kernel_rfl
theorem g_goes : false = Rows.fnDdtPartsRow.goesBy Tryd.prog := by kernel_rfl
theorem g_looks : true = Tryd.prog.looks [] := by kernel_rfl
theorem g_main : Tryd.prog.mainIs = some (true, "aa9320ed79a2ded371067b009930042670d8f7db50d005a98a3972c71de6a50c".toList) := by kernel_rfl
theorem g_wrap : Tryd.f5.isWrapper Tryd.prog Rows.fnDdtPartsRow.wrapper Rows.fnDdtPartsRow.mainSum := by unfold Func.isWrapper; first | (rw [if_pos (by decide +kernel)]; kernel_rfl) | (rw [if_neg (by decide +kernel)]; exact ⟨rfl, rfl⟩)
theorem g_nm : Tryd.prog.funcNamed Rows.fnDdtPartsRow.func = some 5 := by kernel_rfl
theorem over : Rows.FnDdtPartsSaid :=
  OpenClaim.holds_of_cond 5 Tryd.f5 rfl rfl rfl rfl rfl rfl rfl ⟨rfl, rfl, rfl, rfl, rfl⟩ rfl rfl rfl rfl rfl g_nm Tryd.func5 closed
    (of_decide_eq_true (by kernel_rfl)) g_wrap
    (fun os started H enc _ F0 => by rw [OpenClaim.pre_eq_preRow]; exact lifted os started H enc F0)

theorem proved : Rows.FnDdtPartsCardSaid :=
  Claim7.holds_tied_plain_at .later [] [.data, .data, .data, .data, .sentinel, .sentinel, .pinned] true (true, "aa9320ed79a2ded371067b009930042670d8f7db50d005a98a3972c71de6a50c") true
    over (fun _ h => by cases h) g_wf (fun _ h => by cases h) fnDdtParts_row_tie rfl ⟨rfl, rfl⟩ g_main rfl
    (fun f fn hf hfn => by
      obtain rfl : f = 5 := Option.some.inj ((show Tryd.prog.funcNamed "loop.example/palim/laws.FnDdtParts" = some 5 by kernel_rfl).symm.trans hf) |>.symm
      obtain rfl : fn = Tryd.f5 := (Option.some.inj (Tryd.func5.symm.trans hfn)).symm
      refine ⟨g_looks, fun j t ht => ?_⟩
      rw [Tryd.params5] at ht
      have hm := Array.mem_of_getElem? ht
      have hall : (#[22, 22] : Array Nat).all (fun t => !Tryd.prog.wantsStandIn t) = true := by kernel_rfl
      have := Array.all_eq_true_iff_forall_mem.1 hall t hm
      exact (show Tryd.prog.wantsStandIn t = false from by simpa using this))
    g_goes
#print axioms proved
end Go.Proofs.YtkjnijddbiconaaDoor.fnDdtParts
namespace Go.Proofs.YtkjnijddbiconaaDoor
/-- The card, under a short name, for the claim. -/
theorem fnDdtParts_holds : Rows.FnDdtPartsCardSaid := fnDdtParts.proved
end Go.Proofs.YtkjnijddbiconaaDoor
