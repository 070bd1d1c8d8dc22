/- The law of DdtText. -/
import Derived.Test.YtkjnijddbiconaaGreatDoorD6
import Derived.Test.YtkjnijddbiconaaGreatDoorD3T
namespace Go.Proofs.YtkjnijddbiconaaGreatDoor.Ev
open Go
set_option linter.unusedVariables false
set_option linter.unusedSimpArgs false
set_option maxRecDepth 100000
noncomputable def E45 : Env := E0.of Tryz.f45
noncomputable def G45 : Gk := gk [(112, g112), (118, g118), (119, g119)]
noncomputable def lp45 (n : Nat) : Code := (loopOf n (codeOf Tryz.f45)).getD .skip
noncomputable def ct45 (L : Lp) (R : Option Res → Prop) (n : Nat) : Kt := contOf E45 G45 L n (codeOf Tryz.f45) (endK E45 Tryz.f45.results.toList R)
noncomputable def rk45 (L : Lp) (R : Option Res → Prop) (n : Nat) (N : St → Prop) : Kt := rk (jof E45 (lp45 n)) N (ct45 L R n)
noncomputable def LOOP45 (L : Lp) (R : Option Res → Prop) (n : Nat) (st : St) : Prop := L (lp45 n) st (ct45 L R n)
theorem hg45 : HG Tryz.prog G45 := (hg_cons h112 (hg_cons h118 (hg_cons h119 hg_nil)))
theorem okf45 : Ok Tryz.prog E45 := ok0.of Tryz.f45
theorem e45 (L : Lp) (R : Option Res → Prop) (xs : List (Elem k3)) : (bodyP E0 G45 L Tryz.f45 [.rsl k3 xs] [] R) = (
    br (decide (xs.length ≤ 1048576)) (br (!ddtOk xs) (R (some { av := vS { data := #[] }, obs := [], outs := [] })) (LOOP45 L R 5 { tm := [AV.rsl k3 xs, vU, vS { data := #[] }, AV.ows 0, vU, vJ, vJ, vJ, vJ, AV.rsl k3 xs, vI (↑xs.length : Int), vI 0, vJ, vJ, vJ, vJ, vJ, vJ, vJ, vJ, vJ, vJ, vJ, vJ, vJ, vJ, vJ, vU, vU], ob := [(0, AO.row ks [])], nx := 1000000, ps := [] })) False) := by kernel_rfl
def st45 (xs : List (Elem k3)) (i : Int) (ys : List (Elem ks)) : St :=  ⟨[AV.rsl k3 xs, vU, vS { data := #[] }, AV.ows 0, vU, vJ, vJ, vJ, vJ, AV.rsl k3 xs, vI (↑xs.length : Int), .val (.int .i64 i), vJ, vJ, vJ, vJ, vJ, vJ, vJ, vJ, vJ, vJ, vJ, vJ, vJ, vJ, vJ, vU, vU], [(0, .row ks ys)], 1000000, []⟩
theorem b45 (L : Lp) (R : Option Res → Prop) (N : St → Prop) (xs : List (Elem k3)) (i : Int) (ys : List (Elem ks)) : (evP E45 G45 L (lp45 5) (st45 xs i ys) (rk45 L R 5 N)) = (
    br (decide (i < (↑xs.length : Int))) (br (decide (0 ≤ i ∧ i < (↑xs.length : Int))) (br (allN [((xs.getD i.toNat (edflt k3)).fst, ()), ((xs.getD i.toNat (edflt k3)).snd.fst, ()), (xs.getD i.toNat (edflt k3)).snd.snd] && (decide ([((xs.getD i.toNat (edflt k3)).fst, ()), ((xs.getD i.toNat (edflt k3)).snd.fst, ()), (xs.getD i.toNat (edflt k3)).snd.snd].length ≤ 1048576) && decide ((joinT (decS [((xs.getD i.toNat (edflt k3)).fst, ()), ((xs.getD i.toNat (edflt k3)).snd.fst, ()), (xs.getD i.toNat (edflt k3)).snd.snd]) { data := #[46] }).size ≤ 1099511627776))) (br (decide ((ys.length + [(joinT (decS [((xs.getD i.toNat (edflt k3)).fst, ()), ((xs.getD i.toNat (edflt k3)).snd.fst, ()), (xs.getD i.toNat (edflt k3)).snd.snd]) { data := #[46] }, ())].length) * 16 ≤ 140737488355328)) (N { tm := [AV.rsl k3 xs, vU, vS { data := #[] }, AV.ows 0, vU, vJ, vJ, vJ, vJ, AV.rsl k3 xs, vI (↑xs.length : Int), vI (IntKind.i64.wrap (i + 1)), vJ, vJ, vJ, vJ, vJ, vJ, vJ, vJ, vJ, vJ, vJ, vJ, vJ, vJ, vJ, vU, vU], ob := [(0, AO.row ks (ys ++ [(joinT (decS [((xs.getD i.toNat (edflt k3)).fst, ()), ((xs.getD i.toNat (edflt k3)).snd.fst, ()), (xs.getD i.toNat (edflt k3)).snd.snd]) { data := #[46] }, ())]))], nx := 1000000, ps := [] }) False) False) False) (br (decide (ys.length ≤ 1048576) && decide ((joinT ys { data := #[32] }).size ≤ 1099511627776)) (R (some { av := vS (joinT ys { data := #[32] }), obs := [], outs := [] })) False)) := by kernel_rfl
theorem h45 : G1Ok Tryz.prog 45 g312 := by
  intro args obs k h
  unfold g312 at h
  split at h
  · rename_i k xs
    obtain ⟨hl, h⟩ := brd h
    refine ⟨_, ctr_fn ok0 hg45 Tryz.func45 (by kernel_rfl) (by kernel_rfl) (by kernel_rfl) fun C => ?_, h⟩
    rw [e45]
    refine br_yes hl (br_not (fun h1 => ?_) (fun h1 => ?_))
    · show _ = _
      unfold ddtT
      rw [h1]
      rfl
    have h119 := ddtOk_len h1
    have hel : (entS xs).length = xs.length := by simp [entS]
    refine loopUp okf45 hg45 (fun i ys => st45 xs i ys) xs.length (fun i ys => ys = (entS xs).take i ∧ (joinT ys ⟨#[32]⟩).size ≤ 100000 * i) (fun N i ys hi ⟨hy, hs⟩ next => ?_) [] ⟨rfl, Nat.le_refl _⟩
    show evP E45 G45 _ (lp45 5) (st45 xs i ys) (rk45 _ _ 5 _)
    rw [b45, wrap_id (n := (i : Int) + 1) (by omega) (by omega), Int.toNat_natCast]
    have hyl : ys.length = i := by rw [hy, List.length_take]; omega
    refine br_dec (fun h2 => ?_) (fun h2 => ?_)
    · have hi' : i < xs.length := by omega
      obtain ⟨r1, r2, r3⟩ := ddtOk_ent h1 hi'
      have s1 := ent_size r1
      have s2 := ent_size r2
      have s3 := ent_size r3
      have e112 : (⟨#[46]⟩ : ByteArray).size = 1 := rfl
      have et : (entT (xs.getD i (edflt k3))).size ≤ 98300 := by
        unfold entT
        simp only [ByteArray.size_append, e112]
        omega
      refine br_yes ⟨by omega, h2⟩ (br_t ?_ (br_yes ?_ ?_))
      · have n1 : inN (xs.getD i (edflt k3)).1 = true := inN_of (Int.le_trans (by decide) r1.1) (Int.le_trans r1.2 (by decide))
        have n2 : inN (xs.getD i (edflt k3)).2.1 = true := inN_of (Int.le_trans (by decide) r2.1) (Int.le_trans r2.2 (by decide))
        have n3 : inN (xs.getD i (edflt k3)).2.2.1 = true := inN_of (Int.le_trans (by decide) r3.1) (Int.le_trans r3.2 (by decide))
        have e2 : (joinT (decS [((xs.getD i (edflt k3)).1, ()), ((xs.getD i (edflt k3)).2.1, ()), ((xs.getD i (edflt k3)).2.2.1, ())]) ⟨#[46]⟩).size ≤ 1099511627776 := by
          rw [entT_join]
          omega
        show ((inN (xs.getD i (edflt k3)).1 && (inN (xs.getD i (edflt k3)).2.1 && (inN (xs.getD i (edflt k3)).2.2.1 && true))) && (true && decide ((joinT (decS [((xs.getD i (edflt k3)).1, ()), ((xs.getD i (edflt k3)).2.1, ()), ((xs.getD i (edflt k3)).2.2.1, ())]) ⟨#[46]⟩).size ≤ 1099511627776))) = true
        rw [n1, n2, n3, decide_eq_true e2]
        rfl
      · show (ys.length + 1) * 16 ≤ _
        omega
      · have e : joinT (decS [((xs.getD i (edflt k3)).1, ()), ((xs.getD i (edflt k3)).2.1, ()), (xs.getD i (edflt k3)).2.2]) ⟨#[46]⟩ = entT (xs.getD i (edflt k3)) := entT_join _
        rw [e]
        have hnx : (entS xs).take (i + 1) = ys ++ [(entT (xs.getD i (edflt k3)), ())] := by rw [entS_next xs hi', hy]
        refine next hi' _ ⟨hnx.symm, ?_⟩
        by_cases h0 : ys = []
        · rw [h0, List.nil_append, joinT_one]
          omega
        · rw [joinT_snoc _ _ _ h0, ByteArray.size_append, ByteArray.size_append]
          have : (⟨#[32]⟩ : ByteArray).size = 1 := rfl
          omega
    · have hyx : ys = entS xs := by rw [hy, List.take_of_length_le (by omega)]
      have e2 : (joinT ys ⟨#[32]⟩).size ≤ 1099511627776 := by omega
      refine br_t ?_ ?_
      · rw [decide_eq_true (show ys.length ≤ 1048576 by omega), decide_eq_true e2]
        rfl
      · show _ = _
        unfold ddtT
        rw [h1, hyx]
  · exact h.elim
end Go.Proofs.YtkjnijddbiconaaGreatDoor.Ev
