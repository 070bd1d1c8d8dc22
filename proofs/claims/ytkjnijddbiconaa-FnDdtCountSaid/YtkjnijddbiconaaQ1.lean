/- slices.Delete at a struct of three ints: the cells are walked as ints. -/
import Derived.Test.YtkjnijddbiconaaEvC
import Derived.Shelf.RegionOpenPlain
import Derived.WalkKit
import Derived.Deep.LoopGhost
import Derived.Deep.RegionLaw
import Derived.Lib.Walk
import Derived.Sort.WalkB12
import Derived.Test.YtkjnijddbiconaaProg
import Derived.Lib.SliceRun
import Derived.Lib.SlicesDelete
import Derived.Lib.Hide
namespace Go.Proofs.Ytkjnijddbiconaa.Ev
open Go Go.Shelf Go.RowKit Go.Lib Go.Sort
set_option linter.unusedVariables false
abbrev vI0 : Value := .int .i64 0
abbrev encZ (z : Int) : Value := .int .i64 z
theorem run_clear3 {P : Program} (w : World) (t e ty : TypeId) (z : Value) (ht : P.underlying t = some (.slice e)) (hv : ∀ w, (zeroValue e).run P w = .ok z w) (hz : z.cells = #[vI0, vI0, vI0]) (b o c : Nat)
    (hc : ∀ j, j < 3 → (w.cell? ⟨b, o + j, none⟩).isSome = true) (hf : ∀ j, j < 3 → w.frozen? ⟨b, o + j, none⟩ = false) :
    (Builtin.clear_ #[t] ty #[.slice (some ⟨b, o, none⟩) 1 c]).run P w = .ok (.tuple #[]) (w.setCells b o [vI0, vI0, vI0]) := by
  have hzc : (Builtin.zeroCells z.cells 1).toList = [vI0, vI0, vI0] := by
    rw [hz]
    apply List.ext_getElem
    · simp [Builtin.zeroCells]
    · intro i h1 h2
      have hi : i < 3 := by simpa using h2
      rcases (by omega : i = 0 ∨ i = 1 ∨ i = 2) with rfl | rfl | rfl <;> simp [Builtin.zeroCells]
  have hst := run_storeCells_cells (P := P) b o [vI0, vI0, vI0] 0 w (by simpa using hc) (by simpa using hf) (by intro v hv'; simp at hv'; rw [hv']; rfl)
  simp only [Nat.add_zero] at hst
  simp [Builtin.clear_, run_underlying ht, hv, hzc, hst]
set_option maxHeartbeats 4000000 in
set_option maxRecDepth 1000000 in
theorem del3 (b i j n cap : Nat) (d : Array Int) (w : World) (hH : Holds encZ w b 0 d) (hd : d.size = n * 3) (hcap : n ≤ cap) (hij : j = i + 1) (hj : j ≤ n) :
    Calls Try.prog 35 #[.slice (some ⟨b, 0, none⟩) n cap, .int .i64 i, .int .i64 j] w fun e w' => e = .returned (.slice (some ⟨b, 0, none⟩) (n - 1) cap) ∧ ∃ q, w' = putRow encZ (Sort.ahead w q) b 0 (d.toList.take (i * 3) ++ d.toList.drop (j * 3) ++ [0, 0, 0]).toArray := by
  have hlt : i < j := by omega
  obtain ⟨news, hnews⟩ : ∃ news, news = (d.toList.drop (j * 3)).map encZ := ⟨_, rfl⟩
  have hlen : news.length = (n - j) * 3 := by rw [hnews]; simp [hd]; omega
  have hget : ∀ t, t < (n - j) * 3 → news[t]? = some (encZ d[j * 3 + t]!) := by
    intro t ht
    rw [hnews, List.getElem?_map, List.getElem?_drop, Array.getElem?_toList, getElem!_pos d (j * 3 + t) (by omega), Array.getElem?_eq_getElem (by omega)]
    rfl
  obtain ⟨A, hA, hsrc⟩ : ∃ A : Addr, (if cap = j then some (⟨b, 0, none⟩ : Addr) else some ⟨b, j * 3, none⟩) = some A ∧ Hid (∀ t u, news[t]? = some u → w.drew.cell? (A.add t) = some u) := by
    by_cases h : cap = j
    · refine ⟨⟨b, 0, none⟩, by simp [h], fun t u hu => ?_⟩
      have h0 : news.length = 0 := by rw [hlen]; omega
      rw [List.length_eq_zero_iff.1 h0] at hu
      simp at hu
    · refine ⟨⟨b, j * 3, none⟩, by simp [h], fun t u hu => ?_⟩
      have ht : t < (n - j) * 3 := by
        have := (List.getElem?_eq_some_iff.1 hu).1
        rwa [hlen] at this
      rw [hget t ht] at hu
      have h0 := (hH (j * 3 + t) (by omega)).1
      rw [Nat.zero_add] at h0
      rw [Addr.add_lit]
      exact h0.trans hu
  have s1 : Hid (news.length = (n - j) * 3) := hlen
  have s2 : Hid (∀ u ∈ news, u.oneCell' = true) := by
    intro u hu
    rw [hnews] at hu
    obtain ⟨x, _, rfl⟩ := List.mem_map.1 hu
    rfl
  have s3 : Hid (∀ t, t < news.length → (w.drew.cell? ⟨b, 0 + i * 3 + t, none⟩).isSome = true ∧ w.drew.frozen? ⟨b, 0 + i * 3 + t, none⟩ = false) := by
    intro t ht
    rw [hlen] at ht
    rw [Nat.add_assoc]
    exact ⟨by show (w.cell? _).isSome = true; rw [(hH (i * 3 + t) (by omega)).1]; rfl, (hH (i * 3 + t) (by omega)).2⟩
  obtain ⟨W1, hW1⟩ : ∃ W1, W1 = w.drew.setCells b (0 + i * 3) news := ⟨_, rfl⟩
  have hW1' : W1 = putRow encZ (Sort.ahead w 1) b 0 (lay d (i * 3) (d.toList.drop (j * 3))) := by
    rw [hW1, hnews, ← putRow_setCells encZ (Sort.ahead w 1) b 0 _ d (i * 3) (by simp; omega), putRow_self encZ (Sort.ahead w 1) b 0 d (holds_ahead encZ w 1 b 0 d hH)]
    rfl
  have hH1 : Holds encZ W1 b 0 (lay d (i * 3) (d.toList.drop (j * 3))) := by rw [hW1']; exact holds_putRow encZ _ b 0 d _ (holds_ahead encZ w 1 b 0 d hH) (lay_size _ _ _)
  have hcl : ∀ ty, (Builtin.clear_ #[24] ty #[.slice (some ⟨b, (i + (n - j)) * 3, none⟩) (n - (i + (n - j))) (cap - (i + (n - j)))]).run Try.prog W1 = .ok (.tuple #[]) (W1.setCells b ((i + (n - j)) * 3) [vI0, vI0, vI0]) := by
    intro ty
    rw [show n - (i + (n - j)) = 1 by omega]
    refine run_clear3 W1 24 42 ty _ Try.underlying24 Try.zeroValue42 (by rfl) b _ _ (fun t ht => ?_) (fun t ht => ?_)
    · rw [show (i + (n - j)) * 3 + t = 0 + ((i + (n - j)) * 3 + t) by omega, (hH1 _ (by rw [lay_size]; omega)).1]; rfl
    · rw [show (i + (n - j)) * 3 + t = 0 + ((i + (n - j)) * 3 + t) by omega]; exact (hH1 _ (by rw [lay_size]; omega)).2
  have X : Aside (W1 = putRow encZ (Sort.ahead w 1) b 0 (lay d (i * 3) (d.toList.drop (j * 3)))) := hW1'
  have hW : Hid (W1 = w.drew.setCells b (0 + i * 3) news) := hW1
  have hic : i ≤ cap := by omega
  have hjc : j ≤ cap := by omega
  have hjn : Hid (j = i + 1) := hij
  have hdn : Hid (d.size = n * 3) := hd
  obtain ⟨i0, hi0, hz3⟩ : ∃ i0, Try.prog.info? 42 = some i0 ∧ i0.size = 3 := by
    have h : (Try.prog.info? 42).map (fun i => i.size) = some 3 := by kernel_rfl
    exact Option.map_eq_some_iff.1 h
  have mixed : Try.prog.follows Departure.mixedOrders = true := by kernel_rfl
  clear hW1 hW1' hH1 hH hget hnews hlen hij hd
  go_enter Try.func35, Try.ntmps35
  go_wp2_with fail
  go_region_law_o (refine step_append_room rfl (.tmp 22) (.tmp 25) 24 rfl 42 i0 3 Try.underlying24 hi0 hz3 b 0 i cap (by simp [Act.eval, Act.put]) A (n - j) (cap - j) news (by simp [Act.eval, Act.put]) s1.out hsrc.out s2.out (by omega) s3.out ?_; rw [← hW.out])
  go_wp2
  go_ret
  have e1 := hjn.out
  have e2 := hdn.out
  refine ⟨by rw [show n - 1 = i + (n - j) by omega]; rfl, 1, ?_⟩
  rw [show ([0, 0, 0] : List Int) = List.replicate (j * 3 - i * 3) 0 by rw [show j * 3 - i * 3 = 3 by omega]; rfl,
    ← delete_arr d (i * 3) (j * 3) 0 (by omega) (by omega), show i * 3 + (d.size - j * 3) = (i + (n - j)) * 3 by omega,
    ← putRow_setCells encZ _ b 0 _ _ ((i + (n - j)) * 3) (by rw [lay_size]; simp; omega), ← X.out, Nat.zero_add, show j * 3 - i * 3 = 3 by omega]
  rfl
end Go.Proofs.Ytkjnijddbiconaa.Ev
