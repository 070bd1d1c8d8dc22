/- The law of DdtText. -/
import Derived.Test.YtkjnijddbiconaaDoorD6
import Derived.Test.YtkjnijddbiconaaDoorD3T
namespace Go.Proofs.YtkjnijddbiconaaDoor.Ev
open Go
set_option linter.unusedVariables false
set_option linter.unusedSimpArgs false
set_option maxRecDepth 100000
noncomputable def E21 : Env := E0.of Tryd.f21
noncomputable def G21 : Gk := gk [(46, g46), (47, g47), (48, g48)]
noncomputable def lp21 (n : Nat) : Code := (loopOf n (codeOf Tryd.f21)).getD .skip
noncomputable def ct21 (L : Lp) (R : Option Res → Prop) (n : Nat) : Kt := contOf E21 G21 L n (codeOf Tryd.f21) (endK E21 Tryd.f21.results.toList R)
noncomputable def rk21 (L : Lp) (R : Option Res → Prop) (n : Nat) (N : St → Prop) : Kt := rk (jof E21 (lp21 n)) N (ct21 L R n)
noncomputable def LOOP21 (L : Lp) (R : Option Res → Prop) (n : Nat) (st : St) : Prop := L (lp21 n) st (ct21 L R n)
theorem hg21 : HG Tryd.prog G21 := (hg_cons h46 (hg_cons h47 (hg_cons h48 hg_nil)))
theorem okf21 : Ok Tryd.prog E21 := ok0.of Tryd.f21
theorem e21 (L : Lp) (R : Option Res → Prop) (xs : List (Elem k3)) : (bodyP E0 G21 L Tryd.f21 [.rsl k3 xs] [] R) = (
    br (decide (xs.length ≤ 1048576)) (br (!ddtOk xs) (R (some { av := vS { data := #[] }, obs := [], outs := [] })) (LOOP21 L R 5 { tm := [AV.rsl k3 xs, vU, vS { data := #[] }, AV.ows 0, vU, vJ, vJ, vJ, vJ, AV.rsl k3 xs, vI (↑xs.length : Int), vI 0, vJ, vJ, vJ, vJ, vJ, vJ, vJ, vJ, vJ, vJ, vJ, vJ, vJ, vJ, vJ, vU, vU], ob := [(0, AO.row ks [])], nx := 1000000, ps := [] })) False) := by kernel_rfl
def st21 (xs : List (Elem k3)) (i : Int) (ys : List (Elem ks)) : St :=  ⟨[AV.rsl k3 xs, vU, vS { data := #[] }, AV.ows 0, vU, vJ, vJ, vJ, vJ, AV.rsl k3 xs, vI (↑xs.length : Int), .val (.int .i64 i), vJ, vJ, vJ, vJ, vJ, vJ, vJ, vJ, vJ, vJ, vJ, vJ, vJ, vJ, vJ, vU, vU], [(0, .row ks ys)], 1000000, []⟩
theorem b21 (L : Lp) (R : Option Res → Prop) (N : St → Prop) (xs : List (Elem k3)) (i : Int) (ys : List (Elem ks)) : (evP E21 G21 L (lp21 5) (st21 xs i ys) (rk21 L R 5 N)) = (
    br (decide (i < (↑xs.length : Int))) (br (decide (0 ≤ i ∧ i < (↑xs.length : Int))) (br (allN [((xs.getD i.toNat (edflt k3)).fst, ()), ((xs.getD i.toNat (edflt k3)).snd.fst, ()), (xs.getD i.toNat (edflt k3)).snd.snd] && (decide ([((xs.getD i.toNat (edflt k3)).fst, ()), ((xs.getD i.toNat (edflt k3)).snd.fst, ()), (xs.getD i.toNat (edflt k3)).snd.snd].length ≤ 1048576) && decide ((joinT (decS [((xs.getD i.toNat (edflt k3)).fst, ()), ((xs.getD i.toNat (edflt k3)).snd.fst, ()), (xs.getD i.toNat (edflt k3)).snd.snd]) { data := #[46] }).size ≤ 1099511627776))) (br (decide ((ys.length + [(joinT (decS [((xs.getD i.toNat (edflt k3)).fst, ()), ((xs.getD i.toNat (edflt k3)).snd.fst, ()), (xs.getD i.toNat (edflt k3)).snd.snd]) { data := #[46] }, ())].length) * 16 ≤ 140737488355328)) (N { tm := [AV.rsl k3 xs, vU, vS { data := #[] }, AV.ows 0, vU, vJ, vJ, vJ, vJ, AV.rsl k3 xs, vI (↑xs.length : Int), vI (IntKind.i64.wrap (i + 1)), vJ, vJ, vJ, vJ, vJ, vJ, vJ, vJ, vJ, vJ, vJ, vJ, vJ, vJ, vJ, vU, vU], ob := [(0, AO.row ks (ys ++ [(joinT (decS [((xs.getD i.toNat (edflt k3)).fst, ()), ((xs.getD i.toNat (edflt k3)).snd.fst, ()), (xs.getD i.toNat (edflt k3)).snd.snd]) { data := #[46] }, ())]))], nx := 1000000, ps := [] }) False) False) False) (br (decide (ys.length ≤ 1048576) && decide ((joinT ys { data := #[32] }).size ≤ 1099511627776)) (R (some { av := vS (joinT ys { data := #[32] }), obs := [], outs := [] })) False)) := by kernel_rfl
theorem h21 : G1Ok Tryd.prog 21 g22 := by
  intro args obs k h
  unfold g22 at h
  split at h
  · rename_i k xs
    obtain ⟨hl, h⟩ := brd h
    refine ⟨_, ctr_fn ok0 hg21 Tryd.func21 (by kernel_rfl) (by kernel_rfl) (by kernel_rfl) fun C => ?_, h⟩
    rw [e21]
    refine br_yes hl (br_not (fun h1 => ?_) (fun h1 => ?_))
    · show _ = _
      unfold ddtT
      rw [h1]
      rfl
    have h48 := ddtOk_len h1
    have hel : (entS xs).length = xs.length := by simp [entS]
    refine loopUp okf21 hg21 (fun i ys => st21 xs i ys) xs.length (fun i ys => ys = (entS xs).take i ∧ (joinT ys ⟨#[32]⟩).size ≤ 100000 * i) (fun N i ys hi ⟨hy, hs⟩ next => ?_) [] ⟨rfl, Nat.le_refl _⟩
    show evP E21 G21 _ (lp21 5) (st21 xs i ys) (rk21 _ _ 5 _)
    rw [b21, wrap_id (n := (i : Int) + 1) (by omega) (by omega), Int.toNat_natCast]
    have hyl : ys.length = i := by rw [hy, List.length_take]; omega
    refine br_dec (fun h2 => ?_) (fun h2 => ?_)
    · have hi' : i < xs.length := by omega
      obtain ⟨r1, r2, r3⟩ := ddtOk_ent h1 hi'
      have s1 := ent_size r1
      have s2 := ent_size r2
      have s3 := ent_size r3
      have e46 : (⟨#[46]⟩ : ByteArray).size = 1 := rfl
      have et : (entT (xs.getD i (edflt k3))).size ≤ 98300 := by
        unfold entT
        simp only [ByteArray.size_append, e46]
        omega
      refine br_yes ⟨by omega, h2⟩ (br_t ?_ (br_yes ?_ ?_))
      · have n1 : inN (xs.getD i (edflt k3)).1 = true := inN_of (Int.le_trans (by decide) r1.1) (Int.le_trans r1.2 (by decide))
        have n2 : inN (xs.getD i (edflt k3)).2.1 = true := inN_of (Int.le_trans (by decide) r2.1) (Int.le_trans r2.2 (by decide))
        have n3 : inN (xs.getD i (edflt k3)).2.2.1 = true := inN_of (Int.le_trans (by decide) r3.1) (Int.le_trans r3.2 (by decide))
        have e2 : (joinT (decS [((xs.getD i (edflt k3)).1, ()), ((xs.getD i (edflt k3)).2.1, ()), ((xs.getD i (edflt k3)).2.2.1, ())]) ⟨#[46]⟩).size ≤ 1099511627776 := by
          rw [entT_join]
          omega
        show ((inN (xs.getD i (edflt k3)).1 && (inN (xs.getD i (edflt k3)).2.1 && (inN (xs.getD i (edflt k3)).2.2.1 && true))) && (true && decide ((joinT (decS [((xs.getD i (edflt k3)).1, ()), ((xs.getD i (edflt k3)).2.1, ()), ((xs.getD i (edflt k3)).2.2.1, ())]) ⟨#[46]⟩).size ≤ 1099511627776))) = true
        rw [n1, n2, n3, decide_eq_true e2]
        rfl
      · show (ys.length + 1) * 16 ≤ _
        omega
      · have e : joinT (decS [((xs.getD i (edflt k3)).1, ()), ((xs.getD i (edflt k3)).2.1, ()), (xs.getD i (edflt k3)).2.2]) ⟨#[46]⟩ = entT (xs.getD i (edflt k3)) := entT_join _
        rw [e]
        have hnx : (entS xs).take (i + 1) = ys ++ [(entT (xs.getD i (edflt k3)), ())] := by rw [entS_next xs hi', hy]
        refine next hi' _ ⟨hnx.symm, ?_⟩
        by_cases h0 : ys = []
        · rw [h0, List.nil_append, joinT_one]
          omega
        · rw [joinT_snoc _ _ _ h0, ByteArray.size_append, ByteArray.size_append]
          have : (⟨#[32]⟩ : ByteArray).size = 1 := rfl
          omega
    · have hyx : ys = entS xs := by rw [hy, List.take_of_length_le (by omega)]
      have e2 : (joinT ys ⟨#[32]⟩).size ≤ 1099511627776 := by omega
      refine br_t ?_ ?_
      · rw [decide_eq_true (show ys.length ≤ 1048576 by omega), decide_eq_true e2]
        rfl
      · show _ = _
        unfold ddtT
        rw [h1, hyx]
  · exact h.elim
end Go.Proofs.YtkjnijddbiconaaDoor.Ev
