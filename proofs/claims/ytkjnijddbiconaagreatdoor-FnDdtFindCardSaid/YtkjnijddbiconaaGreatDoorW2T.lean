/- strings.Split, strconv.Atoi: contracts by the kit's shelf. -/
import Derived.Test.YtkjnijddbiconaaGreatDoorW2
import Derived.Test.YtkjnijddbiconaaGreatDoorDT
namespace Go.Proofs.YtkjnijddbiconaaGreatDoor.Ev
open Go
set_option linter.unusedVariables false
set_option linter.unusedSimpArgs false
set_option maxRecDepth 100000
set_option maxHeartbeats 1000000
def g97 : G1
  | [.val (.string s), .val (.string p)], [], k => br (decide (s.size ≤ 1048576) && decide (p.size = 1)) (k ⟨.ows 0, [.row [.str] (cutL s (byteAt p 0))], []⟩) False
  | _, _, _ => False
def g171 : G1
  | [.val (.string s)], [], k => br (decide (s.size ≤ 1048576)) (br (atK s) (k ⟨.tup [.val (.int .i64 (atN s)), .val .nilIface], [], []⟩) (k ⟨.tup [.val (.int .i64 (atN s)), .ifc], [], []⟩)) False
  | _, _, _ => False
theorem bytes_one' {p : ByteArray} (h : p.size = 1) : ∃ b, p = ⟨#[b]⟩ ∧ byteAt p 0 = (b.toNat : Int) := by
  obtain ⟨⟨l⟩⟩ := p
  match l, h with
  | [b], _ => exact ⟨b, rfl, rfl⟩
theorem flat_txt : ∀ (ys : List (Elem ks)), flat ks ys = ys.map fun e => .string e.1
  | [] => rfl
  | e :: ys => by
    show vals ks e ++ flat ks ys = _
    rw [flat_txt ys]
    rfl
theorem quiet_alloc (w : World) (o : Obj) : Quiet w (w.alloc o) := by
  refine ⟨⟨rfl, rfl, rfl, ?_⟩, fun b x hb => ?_⟩
  · show w.heap.size ≤ (w.heap.push o).size
    rw [Array.size_push]
    omega
  · show (w.heap.push o)[b]? = some x
    obtain ⟨hlt, e⟩ := Array.getElem?_eq_some_iff.1 hb
    rw [Array.getElem?_push_lt hlt, e]
theorem h97 : G1Ok Tryz.prog 97 g97 := by
  intro args obs k h
  unfold g97 at h
  split at h
  · rename_i k s p
    obtain ⟨hp, h⟩ := br_and h
    simp only [Bool.and_eq_true, decide_eq_true_eq] at hp
    obtain ⟨b, rfl, hb⟩ := bytes_one' hp.2
    refine ⟨_, ctr_row (us := [.string s, .string ⟨#[b]⟩]) (xs := cutL s (byteAt ⟨#[b]⟩ 0)) Tryz.func97 (by kernel_rfl) (by kernel_rfl) (fun w ht => ?_), h⟩
    obtain ⟨m, hm⟩ := ht.2.1
    refine (Tryz.strings_Split s ⟨#[b]⟩ m w (by omega) hm (Nat.le_refl _)).mono fun e w' he => ?_
    obtain ⟨rfl, rfl⟩ := he
    have hW : (Lib.splitB ⟨#[b]⟩ 0 (Lib.countB s ⟨#[b]⟩) s).map (·.data.toList) = splitW b s.data.toList := by
      rw [Lib.splitB_data]
      exact splitK_W b s.data.toList
    have hC : UInt8.ofNat (byteAt ⟨#[b]⟩ 0).toNat = b := by
      rw [hb, Int.toNat_natCast]
      apply UInt8.toNat_inj.1
      have := b.toNat_lt
      show b.toNat % 256 = b.toNat
      omega
    have hE : (cutL s (byteAt ⟨#[b]⟩ 0)).map (·.1) = Lib.splitB ⟨#[b]⟩ 0 (Lib.countB s ⟨#[b]⟩) s := by
      unfold cutL
      rw [hC, ← hW, List.map_map, List.map_map]
      conv => rhs; rw [← List.map_id (Lib.splitB ⟨#[b]⟩ 0 (Lib.countB s ⟨#[b]⟩) s)]
      exact List.map_congr_left fun x _ => by obtain ⟨⟨l⟩⟩ := x; rfl
    have hlen : (cutL s (byteAt ⟨#[b]⟩ 0)).length = Lib.countB s ⟨#[b]⟩ + 1 := by
      have h1 := congrArg List.length hE
      rw [List.length_map, Lib.splitB_all ⟨#[b]⟩ (Nat.le_refl _) 0 _ s rfl] at h1
      exact h1
    have hF : flat ks (cutL s (byteAt ⟨#[b]⟩ 0)) = (Lib.splitB ⟨#[b]⟩ 0 (Lib.countB s ⟨#[b]⟩) s).map Value.string := by
      rw [flat_txt, ← hE, List.map_map]
      rfl
    refine ⟨Lib.countB s ⟨#[b]⟩ + 1, _, _, by rw [hlen], by omega, ?_, Array.getElem?_push_size, ?_, quiet_alloc w _⟩
    · show (Lib.countB s ⟨#[b]⟩ + 1) * 1 ≤ ((Lib.splitB ⟨#[b]⟩ 0 (Lib.countB s ⟨#[b]⟩) s).map Value.string).toArray.size
      rw [List.size_toArray, List.length_map, Lib.splitB_all ⟨#[b]⟩ (Nat.le_refl _) 0 _ s rfl]
      omega
    · rw [hF]
      exact List.take_length
  · exact h.elim
theorem h171 : G1Ok Tryz.prog 171 g171 := by
  intro args obs k h
  unfold g171 at h
  split at h
  · rename_i k s
    obtain ⟨hs, h⟩ := brd h
    cases hA : Lib.atoiAll s.data.toList with
    | ok v =>
      have hK : atK s = true := by unfold atK; rw [hA]
      have hN : atN s = v := by unfold atN; rw [hA]
      rw [hK, hN] at h
      refine ⟨_, ctr_lib (args := [.val (.string s)]) Tryz.func171 (by kernel_rfl) (by kernel_rfl) (fun S π w vs hR hS ht => ?_), h⟩
      obtain rfl : vs = [.string s] := RL_vals_eq (vs := [.string s]) hR
      refine (Any.strconv_Atoi_ok Tryz.laysC172 s (by omega) v hA w).mono fun e w' he => ?_
      obtain ⟨rfl, he⟩ := he
      refine ⟨_, rfl, .tup _ [.int .i64 v, .nilIface] rfl (RL.cons (.val _) (RL.cons (.val _) RL.nil)).2, ?_⟩
      rcases he with rfl | ⟨u, rfl⟩
      · exact Quiet.refl _
      · exact quiet_below (Lib.bytesWorld_below _ _ _)
    | range =>
      have hK : atK s = false := by unfold atK; rw [hA]
      have hN : atN s = Lib.atoiSat s.data.toList := by unfold atN; rw [hA]
      rw [hK, hN] at h
      refine ⟨_, ctr_lib (args := [.val (.string s)]) Tryz.func171 (by kernel_rfl) (by kernel_rfl) (fun S π w vs hR hS ht => ?_), h⟩
      obtain rfl : vs = [.string s] := RL_vals_eq (vs := [.string s]) hR
      obtain ⟨tp, p, hv⟩ := ht.2.2.2
      refine (Any.strconv_Atoi_range_var Tryz.laysC172 s (by omega) hA tp p w hv).mono fun e w' he => ?_
      obtain ⟨N, rfl, _, _, hb⟩ := he
      exact ⟨_, rfl, .tup _ [.int .i64 (Lib.atoiSat s.data.toList), .iface _ _] rfl (RL.cons (.val _) (RL.cons (.ifc _ _) RL.nil)).2, quiet_below hb⟩
    | _ =>
      have hK : atK s = false := by unfold atK; rw [hA]
      have hN : atN s = 0 := by unfold atN; rw [hA]
      rw [hK, hN] at h
      refine ⟨_, ctr_lib (args := [.val (.string s)]) Tryz.func171 (by kernel_rfl) (by kernel_rfl) (fun S π w vs hR hS ht => ?_), h⟩
      obtain rfl : vs = [.string s] := RL_vals_eq (vs := [.string s]) hR
      obtain ⟨tp, p, hv⟩ := ht.2.2.1
      refine (Any.strconv_Atoi_syntax_var Tryz.laysC172 s (by omega) hA tp p w hv).mono fun e w' he => ?_
      obtain ⟨N, rfl, _, _, hb⟩ := he
      exact ⟨_, rfl, .tup _ [.int .i64 0, .iface _ _] rfl (RL.cons (.val _) (RL.cons (.ifc _ _) RL.nil)).2, quiet_below hb⟩
  · exact h.elim
end Go.Proofs.YtkjnijddbiconaaGreatDoor.Ev
