/- The law of PtrText. -/
import Derived.Test.YtkjnijddbiconaaGreatDoorD3
import Derived.Test.YtkjnijddbiconaaGreatDoorDT
namespace Go.Proofs.YtkjnijddbiconaaGreatDoor.Ev
open Go
set_option linter.unusedVariables false
set_option linter.unusedSimpArgs false
set_option maxRecDepth 100000
theorem add_none (b o j : Nat) : (⟨b, o, none⟩ : Addr).add j = ⟨b, o + j, none⟩ := by
  cases j with
  | zero => simp [Addr.add]
  | succ j => simp [Addr.add]
theorem h119 : G1Ok Tryz.prog 119 g119 := by
  intro args obs k h
  unfold g119 at h
  split at h
  · rename_i k ys sep
    obtain ⟨hp, h⟩ := br_and h
    simp only [Bool.and_eq_true, decide_eq_true_eq] at hp
    obtain ⟨hl, hsz⟩ := hp
    refine ⟨_, ctr_lib (args := [.rsl ks ys, .val (.string sep)]) Tryz.func119 (by kernel_rfl) (by kernel_rfl) (fun S π w vs hR hS ht => ?_), h⟩
    obtain ⟨v, vs', rfl, hv, hR⟩ := hR.uncons
    obtain rfl : vs' = [.string sep] := RL_vals_eq (vs := [.string sep]) hR
    cases hv with
    | rsl _ _ A c hc hcell =>
      rw [flat_ks] at hcell
      cases ys with
      | nil =>
        refine (Tryz.strings_Join_none A c sep w).mono fun e w' he => ?_
        obtain ⟨rfl, rfl⟩ := he
        exact ⟨_, rfl, .val _, .refl _⟩
      | cons y ys =>
        obtain ⟨a, rfl, h0⟩ := hcell 0 (.string y.1) rfl
        obtain ⟨bk, o, sp⟩ := a
        have hw0 := cellS_world hS h0
        have hsp : sp = none := by
          unfold World.cell? at hw0
          split at hw0
          · split at hw0
            · cases hw0
            · rename_i hns
              simpa [Addr.add] using hns
          · cases hw0
        subst hsp
        have hbk : bk < w.heap.size := by
          unfold World.cell? at hw0
          split at hw0
          · rename_i hb
            exact (Array.getElem?_eq_some_iff.1 hb).1
          · cases hw0
        have hlen : (Lib.join (((y :: ys).map fun e => e.1).map (·.data.toList)) sep.data.toList).length ≤ 140737488355328 := by
          have : (joinT (y :: ys) sep).size = (Lib.join (((y :: ys).map fun e => e.1).map (·.data.toList)) sep.data.toList).length := by
            show (sep.data.toList.intercalate _).toArray.size = _
            rw [List.size_toArray, List.map_map]
            rfl
          omega
        have key := Tryz.strings_Join bk o c ((y :: ys).map fun e => e.1) sep w (fun j x hx => by
          rw [List.getElem?_map] at hx
          obtain ⟨z, hz, rfl⟩ := Option.map_eq_some_iff.1 hx
          obtain ⟨a', ha', hc'⟩ := hcell j (.string z.1) (by rw [List.getElem?_map, hz]; rfl)
          cases ha'
          exact cellS_world hS (by rw [add_none] at hc'; exact hc')) hbk (by simp at hl ⊢; omega) (by simpa using hc) hlen
        rw [List.length_map] at key
        refine key.mono fun e w' he => ?_
        obtain ⟨rfl, hb⟩ := he
        refine ⟨_, rfl, ?_, quiet_below hb⟩
        have : joinT (y :: ys) sep = ⟨(Lib.join (((y :: ys).map fun e => e.1).map (·.data.toList)) sep.data.toList).toArray⟩ := by
          unfold joinT Lib.join
          rw [List.map_map]
          rfl
        rw [this]
        exact .val _
  · exact h.elim
noncomputable def E118 : Env := E0.of Tryz.f118
noncomputable def G118 : Gk := gk [(177, g177), (119, g119)]
noncomputable def lp118 (n : Nat) : Code := (loopOf n (codeOf Tryz.f118)).getD .skip
noncomputable def ct118 (L : Lp) (R : Option Res → Prop) (n : Nat) : Kt := contOf E118 G118 L n (codeOf Tryz.f118) (endK E118 Tryz.f118.results.toList R)
noncomputable def rk118 (L : Lp) (R : Option Res → Prop) (n : Nat) (N : St → Prop) : Kt := rk (jof E118 (lp118 n)) N (ct118 L R n)
noncomputable def LOOP118 (L : Lp) (R : Option Res → Prop) (n : Nat) (st : St) : Prop := L (lp118 n) st (ct118 L R n)
theorem hg118 : HG Tryz.prog G118 := (hg_cons h177 (hg_cons h119 hg_nil))
theorem okf118 : Ok Tryz.prog E118 := ok0.of Tryz.f118
theorem e118 (L : Lp) (R : Option Res → Prop) (xs : List (Elem ki)) : (bodyP E0 G118 L Tryz.f118 [.rsl ki xs] [] R) = (
    LOOP118 L R 3 { tm := [AV.rsl ki xs, vU, vS { data := #[] }, AV.ows 0, vU, vJ, AV.rsl ki xs, vI (↑xs.length : Int), vI 0, vJ, vJ, vJ, vJ, vJ, vJ, vJ, vJ, vJ, vU, vU], ob := [(0, AO.row ks [])], nx := 1000000, ps := [] }) := by kernel_rfl
def st118 (xs : List (Elem ki)) (i : Int) (ys : List (Elem ks)) : St :=  ⟨[AV.rsl ki xs, vU, vS { data := #[] }, AV.ows 0, vU, vJ, AV.rsl ki xs, vI (↑xs.length : Int), .val (.int .i64 i), vJ, vJ, vJ, vJ, vJ, vJ, vJ, vJ, vJ, vU, vU], [(0, .row ks ys)], 1000000, []⟩
theorem b118 (L : Lp) (R : Option Res → Prop) (N : St → Prop) (xs : List (Elem ki)) (i : Int) (ys : List (Elem ks)) : (evP E118 G118 L (lp118 3) (st118 xs i ys) (rk118 L R 3 N)) = (
    br (decide (i < (↑xs.length : Int))) (br (decide (0 ≤ i ∧ i < (↑xs.length : Int))) (br (inN (xs.getD i.toNat (edflt ki)).fst) (br (decide ((ys.length + [(dec (xs.getD i.toNat (edflt ki)).fst, ())].length) * 16 ≤ 140737488355328)) (N { tm := [AV.rsl ki xs, vU, vS { data := #[] }, AV.ows 0, vU, vJ, AV.rsl ki xs, vI (↑xs.length : Int), vI (IntKind.i64.wrap (i + 1)), vJ, vJ, vJ, vJ, vJ, vJ, vJ, vJ, vJ, vU, vU], ob := [(0, AO.row ks (ys ++ [(dec (xs.getD i.toNat (edflt ki)).fst, ())]))], nx := 1000000, ps := [] }) False) False) False) (br (decide (ys.length ≤ 1048576) && decide ((joinT ys { data := #[46] }).size ≤ 1099511627776)) (R (some { av := vS (joinT ys { data := #[46] }), obs := [], outs := [] })) False)) := by kernel_rfl
theorem h118 : G1Ok Tryz.prog 118 g118 := by
  intro args obs k h
  unfold g118 at h
  split at h
  · rename_i k xs
    obtain ⟨hn, hp, h⟩ := brb2 h
    have hp' := hp
    simp only [Bool.and_eq_true, decide_eq_true_eq] at hp'
    obtain ⟨hl, hsz⟩ := hp'
    refine ⟨_, ctr_fn ok0 hg118 Tryz.func118 (by kernel_rfl) (by kernel_rfl) (by kernel_rfl) fun C => ?_, h⟩
    rw [e118]
    refine loopUp okf118 hg118 (fun i ys => st118 xs i ys) xs.length (fun i ys => ys = (decS xs).take i) (fun N i ys hi hys next => ?_) [] rfl
    show evP E118 G118 _ (lp118 3) (st118 xs i ys) (rk118 _ _ 3 _)
    rw [b118, wrap_id (n := (i : Int) + 1) (by omega) (by omega), Int.toNat_natCast]
    have hlen : (decS xs).length = xs.length := by simp [decS]
    have hyl : ys.length = i := by rw [hys, List.length_take]; omega
    refine br_dec (fun h2 => br_yes ⟨by omega, h2⟩ (br_t ?_ (br_yes ?_ ?_))) (fun h2 => ?_)
    · exact all_at hn (edflt ki) (by omega)
    · show (ys.length + 1) * 16 ≤ _
      omega
    · refine next (by omega) _ ?_
      have hi' : i < xs.length := by omega
      have hx : (decS xs)[i]? = some (dec (xs.getD i (edflt ki)).1, ()) := by
        unfold decS
        rw [List.getElem?_map, List.getD_eq_getElem?_getD, List.getElem?_eq_getElem hi']
        rfl
      rw [hys, List.take_add_one, hx]
      rfl
    · have : ys = decS xs := by rw [hys, List.take_of_length_le (by omega)]
      rw [this]
      refine br_t ?_ rfl
      rw [hlen]
      exact hp
  · exact h.elim
end Go.Proofs.YtkjnijddbiconaaGreatDoor.Ev
