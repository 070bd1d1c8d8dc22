/- The law of DdtText: lists of dedup entries. -/
import Derived.Test.YtkjnijddbiconaaGreatDoorDP
namespace Go.Proofs.YtkjnijddbiconaaGreatDoor.Ev
open Go
set_option linter.unusedVariables false
set_option linter.unusedSimpArgs false
set_option maxRecDepth 100000
def within (a b c : Int) : Bool := decide (b ≤ a) && decide (a ≤ c)
def entryOk (a : Elem k3) : Bool := within a.1 0 65520 && within a.2.1 1 119 && within a.2.2.1 1 1000
def g186 : G1
  | [.agg [.val (.int .i64 a), .val (.int .i64 b), .val (.int .i64 c)]], [], k => k ⟨.val (.bool (entryOk (a, b, c, ()))), [], []⟩
  | _, _, _ => False
def at3 (xs : List (Elem k3)) (i : Nat) : Elem k3 := xs.getD i (edflt k3)
def okAt (xs : List (Elem k3)) (i : Nat) : Bool := entryOk (at3 xs i) && (i == 0 || decide ((at3 xs (i - 1)).2.1 < (at3 xs i).2.1))
def ddtOk (xs : List (Elem k3)) : Bool := decide (xs.length ≤ 48) && (List.range xs.length).all (okAt xs)
def g112 : G1
  | [.rsl [.int .i64, .int .i64, .int .i64] xs], [], k => br (decide (xs.length ≤ 1048576)) (k ⟨.val (.bool (ddtOk xs)), [], []⟩) False
  | _, _, _ => False
theorem e186 (L : Lp) (R : Option Res → Prop) (a b c : Int) : (bodyP E0 (gk [(129, g129)]) L Tryz.f186 [.agg [.val (.int .i64 a), .val (.int .i64 b), .val (.int .i64 c)]] [] R) = (
    br (decide (0 ≤ a) && decide (a ≤ 65520)) (br (decide (1 ≤ b) && decide (b ≤ 119)) (R (some { av := vB (decide (1 ≤ c) && decide (c ≤ 1000)), obs := [], outs := [] })) (R (some { av := vB false, obs := [], outs := [] }))) (R (some { av := vB false, obs := [], outs := [] }))) := by kernel_rfl
theorem e120 (L : Lp) (R : Option Res → Prop) (a b c : Int) : (bodyP E0 (gk []) L Tryz.f120 [.agg [.val (.int .i64 a), .val (.int .i64 b), .val (.int .i64 c)]] [] R) = (
    br (decide (a ≥ 0)) (br (decide (a < 65521)) (br (decide (b ≥ 1)) (br (decide (b < 120)) (br (decide (c ≥ 1)) (R (some { av := vB (decide (c ≤ 1000)), obs := [], outs := [] })) (R (some { av := vB false, obs := [], outs := [] }))) (R (some { av := vB false, obs := [], outs := [] }))) (R (some { av := vB false, obs := [], outs := [] }))) (R (some { av := vB false, obs := [], outs := [] }))) (R (some { av := vB false, obs := [], outs := [] }))) := by kernel_rfl
theorem h186 : G1Ok Tryz.prog 186 g186 := by
  intro args obs k h
  unfold g186 at h
  split at h
  · refine ⟨_, ctr_fn ok0 (hg_cons h129 hg_nil) Tryz.func186 (by kernel_rfl) (by kernel_rfl) (by kernel_rfl) fun C => ?_, h⟩
    rw [e186]
    repeat' (first | refine br_intro (fun h => ?_) (fun h => ?_))
    all_goals simp [entryOk, within] at *
    all_goals grind
  · exact h.elim
theorem h120 : G1Ok Tryz.prog 120 g186 := by
  intro args obs k h
  unfold g186 at h
  split at h
  · refine ⟨_, ctr_fn ok0 hg_nil Tryz.func120 (by kernel_rfl) (by kernel_rfl) (by kernel_rfl) fun C => ?_, h⟩
    rw [e120]
    repeat' (first | refine br_intro (fun h => ?_) (fun h => ?_))
    all_goals simp [entryOk, within] at *
    all_goals grind
  · exact h.elim
noncomputable def E46 : Env := E0.of Tryz.f46
noncomputable def G46 : Gk := gk [(120, g186)]
noncomputable def lp46 (n : Nat) : Code := (loopOf n (codeOf Tryz.f46)).getD .skip
noncomputable def ct46 (L : Lp) (R : Option Res → Prop) (n : Nat) : Kt := contOf E46 G46 L n (codeOf Tryz.f46) (endK E46 Tryz.f46.results.toList R)
noncomputable def rk46 (L : Lp) (R : Option Res → Prop) (n : Nat) (N : St → Prop) : Kt := rk (jof E46 (lp46 n)) N (ct46 L R n)
noncomputable def LOOP46 (L : Lp) (R : Option Res → Prop) (n : Nat) (st : St) : Prop := L (lp46 n) st (ct46 L R n)
theorem hg46 : HG Tryz.prog G46 := (hg_cons h120 hg_nil)
theorem okf46 : Ok Tryz.prog E46 := ok0.of Tryz.f46
theorem e46 (L : Lp) (R : Option Res → Prop) (xs : List (Elem k3)) : (bodyP E0 G46 L Tryz.f46 [.rsl k3 xs] [] R) = (
    br (decide ((↑xs.length : Int) > 48)) (R (some { av := vB false, obs := [], outs := [] })) (LOOP46 L R 4 { tm := [AV.rsl k3 xs, vU, vB false, vI 0, vJ, vJ, vJ, vJ, vJ, vJ, vJ, vJ, vJ, vJ, vJ, vJ, vJ, vJ, vJ, vJ, vJ, vJ, vJ, vJ, vJ, vJ, vJ, vJ, vJ, vJ, vJ, vJ, vJ, vJ, vJ, vJ, vJ], ob := [], nx := 1000000, ps := [] })) := by kernel_rfl
def st46 (xs : List (Elem k3)) (i : Int) : St :=  ⟨[AV.rsl k3 xs, vU, vB false, .val (.int .i64 i), vJ, vJ, vJ, vJ, vJ, vJ, vJ, vJ, vJ, vJ, vJ, vJ, vJ, vJ, vJ, vJ, vJ, vJ, vJ, vJ, vJ, vJ, vJ, vJ, vJ, vJ, vJ, vJ, vJ, vJ, vJ, vJ, vJ], [], 1000000, []⟩
theorem b46 (L : Lp) (R : Option Res → Prop) (N : St → Prop) (xs : List (Elem k3)) (i : Int) : (evP E46 G46 L (lp46 4) (st46 xs i) (rk46 L R 4 N)) = (
    br (decide (i < (↑xs.length : Int))) (br (decide (0 ≤ i ∧ i < (↑xs.length : Int))) (br (!entryOk (xs.getD i.toNat (edflt k3))) (R (some { av := vB false, obs := [], outs := [] })) (br (decide (i > 0)) (br (decide (0 ≤ i ∧ i < (↑xs.length : Int))) (br (decide (0 ≤ IntKind.i64.wrap (i - 1) ∧ IntKind.i64.wrap (i - 1) < (↑xs.length : Int))) (br (decide ((xs.getD i.toNat (edflt k3)).snd.fst ≤ (xs.getD (IntKind.i64.wrap (i - 1)).toNat (edflt k3)).snd.fst)) (R (some { av := vB false, obs := [], outs := [] })) (N { tm := [AV.rsl k3 xs, vU, vB false, vI (IntKind.i64.wrap (i + 1)), vJ, vJ, vJ, vJ, vJ, vJ, vJ, vJ, vJ, vJ, vJ, vJ, vJ, vJ, vJ, vJ, vJ, vJ, vJ, vJ, vJ, vJ, vJ, vJ, vJ, vJ, vJ, vJ, vJ, vJ, vJ, vJ, vJ], ob := [], nx := 1000000, ps := [] })) False) False) (N { tm := [AV.rsl k3 xs, vU, vB false, vI (IntKind.i64.wrap (i + 1)), vJ, vJ, vJ, vJ, vJ, vJ, vJ, vJ, vJ, vJ, vJ, vJ, vJ, vJ, vJ, vJ, vJ, vJ, vJ, vJ, vJ, vJ, vJ, vJ, vJ, vJ, vJ, vJ, vJ, vJ, vJ, vJ, vJ], ob := [], nx := 1000000, ps := [] }))) False) (R (some { av := vB true, obs := [], outs := [] }))) := by kernel_rfl
noncomputable def E112 : Env := E0.of Tryz.f112
noncomputable def G112 : Gk := gk [(186, g186)]
noncomputable def lp112 (n : Nat) : Code := (loopOf n (codeOf Tryz.f112)).getD .skip
noncomputable def ct112 (L : Lp) (R : Option Res → Prop) (n : Nat) : Kt := contOf E112 G112 L n (codeOf Tryz.f112) (endK E112 Tryz.f112.results.toList R)
noncomputable def rk112 (L : Lp) (R : Option Res → Prop) (n : Nat) (N : St → Prop) : Kt := rk (jof E112 (lp112 n)) N (ct112 L R n)
noncomputable def LOOP112 (L : Lp) (R : Option Res → Prop) (n : Nat) (st : St) : Prop := L (lp112 n) st (ct112 L R n)
theorem hg112 : HG Tryz.prog G112 := (hg_cons h186 hg_nil)
theorem okf112 : Ok Tryz.prog E112 := ok0.of Tryz.f112
theorem e112 (L : Lp) (R : Option Res → Prop) (xs : List (Elem k3)) : (bodyP E0 G112 L Tryz.f112 [.rsl k3 xs] [] R) = (
    LOOP112 L R 2 { tm := [AV.rsl k3 xs, vU, vB false, vJ, vJ, AV.rsl k3 xs, vI (↑xs.length : Int), vI 0, vJ, vJ, vJ, vJ, vJ, vJ, vJ, vJ, vJ, vJ, vJ, vJ, vJ, vJ, vJ, vJ, vJ, vJ, vJ, vJ, vJ, vJ, vJ, vU, vU, vU], ob := [], nx := 1000000, ps := [] }) := by kernel_rfl
def st112 (xs : List (Elem k3)) (i : Int) : St :=  ⟨[AV.rsl k3 xs, vU, vB false, vJ, vJ, AV.rsl k3 xs, vI (↑xs.length : Int), .val (.int .i64 i), vJ, vJ, vJ, vJ, vJ, vJ, vJ, vJ, vJ, vJ, vJ, vJ, vJ, vJ, vJ, vJ, vJ, vJ, vJ, vJ, vJ, vJ, vJ, vU, vU, vU], [], 1000000, []⟩
theorem b112 (L : Lp) (R : Option Res → Prop) (N : St → Prop) (xs : List (Elem k3)) (i : Int) : (evP E112 G112 L (lp112 2) (st112 xs i) (rk112 L R 2 N)) = (
    br (decide (i < (↑xs.length : Int))) (br (decide (0 ≤ i ∧ i < (↑xs.length : Int))) (br (!entryOk (xs.getD i.toNat (edflt k3))) (R (some { av := vB false, obs := [], outs := [] })) (br (decide (i > 0)) (br (decide (0 ≤ IntKind.i64.wrap (i - 1) ∧ IntKind.i64.wrap (i - 1) < (↑xs.length : Int))) (br (decide ((xs.getD (IntKind.i64.wrap (i - 1)).toNat (edflt k3)).snd.fst ≥ (xs.getD i.toNat (edflt k3)).snd.fst)) (R (some { av := vB false, obs := [], outs := [] })) (N { tm := [AV.rsl k3 xs, vU, vB false, vJ, vJ, AV.rsl k3 xs, vI (↑xs.length : Int), vI (IntKind.i64.wrap (i + 1)), vJ, vJ, vJ, vJ, vJ, vJ, vJ, vJ, vJ, vJ, vJ, vJ, vJ, vJ, vJ, vJ, vJ, vJ, vJ, vJ, vJ, vJ, vJ, vU, vU, vU], ob := [], nx := 1000000, ps := [] })) False) (N { tm := [AV.rsl k3 xs, vU, vB false, vJ, vJ, AV.rsl k3 xs, vI (↑xs.length : Int), vI (IntKind.i64.wrap (i + 1)), vJ, vJ, vJ, vJ, vJ, vJ, vJ, vJ, vJ, vJ, vJ, vJ, vJ, vJ, vJ, vJ, vJ, vJ, vJ, vJ, vJ, vJ, vJ, vU, vU, vU], ob := [], nx := 1000000, ps := [] }))) False) (R (some { av := vB (decide ((↑xs.length : Int) ≤ 48)), obs := [], outs := [] }))) := by kernel_rfl
theorem h112 : G1Ok Tryz.prog 112 g112 := by
  intro args obs k h
  unfold g112 at h
  split at h
  · rename_i k xs
    obtain ⟨hlen, h⟩ := br_and h
    simp at hlen
    refine ⟨_, ctr_fn ok0 hg112 Tryz.func112 (by kernel_rfl) (by kernel_rfl) (by kernel_rfl) fun C => ?_, h⟩
    rw [e112]
    exact loopR okf112 hg112 (ι := {i : Int // 0 ≤ i ∧ i ≤ xs.length ∧ ∀ j : Nat, (j : Int) < i → okAt xs j = true}) (fun i => st112 xs i.1) (fun i => (xs.length - i.1).toNat) (fun ⟨i, h0, h1, hall⟩ => by
      show evP E112 G112 _ (lp112 2) (st112 xs i) (rk112 _ _ 2 _)
      rw [b112]
      have hw1 : IntKind.i64.wrap (i + 1) = i + 1 := wrap_id (by omega) (by omega)
      have hw2 : IntKind.i64.wrap (i - 1) = i - 1 := wrap_id (by omega) (by omega)
      rw [hw1, hw2]
      refine br_intro (fun h2 => ?_) (fun h2 => ?_)
      · simp at h2
        have hi : ((i.toNat : Nat) : Int) = i := by omega
        have bad : okAt xs i.toNat = false → ddtOk xs = false := by
          intro hb
          have : (List.range xs.length).all (okAt xs) = false := by
            rw [List.all_eq_false]
            exact ⟨i.toNat, by simp; omega, by simp [hb]⟩
          simp [ddtOk, this]
        have next : okAt xs i.toNat = true → ∃ j : {i : Int // 0 ≤ i ∧ i ≤ xs.length ∧ ∀ j : Nat, (j : Int) < i → okAt xs j = true}, st112 xs (i + 1) = st112 xs j.1 ∧ (xs.length - j.1).toNat < (xs.length - i).toNat := by
          intro hok
          refine ⟨⟨i + 1, by omega, by omega, fun j hj => ?_⟩, rfl, by show (xs.length - (i + 1)).toNat < _; omega⟩
          by_cases e : (j : Int) < i
          · exact hall j e
          · have : j = i.toNat := by omega
            rw [this]; exact hok
        refine br_intro (fun _ => ?_) (fun h3 => by simp at h3; omega)
        refine br_intro (fun h3 => ?_) (fun h3 => ?_)
        · show _ = _
          rw [bad (by unfold okAt at3; simp at h3; simp [h3])]
        · simp at h3
          refine br_intro (fun h4 => ?_) (fun h4 => ?_)
          · simp at h4
            have hj : (i - 1).toNat = i.toNat - 1 := by omega
            have hne : ¬ i.toNat = 0 := by omega
            refine br_intro (fun _ => ?_) (fun h5 => by simp at h5; omega)
            refine br_intro (fun h5 => ?_) (fun h5 => ?_)
            · show _ = _
              rw [bad (by unfold okAt at3; rw [hj] at h5; simp at h5; simp [hne]; intro _; omega)]
            · exact next (by unfold okAt at3; rw [hj] at h5; simp at h5; simp [hne, h3]; omega)
          · simp at h4
            have h0' : i.toNat = 0 := by omega
            exact next (by unfold okAt at3; simp [h0'] at h3 ⊢; simp [h3])
      · simp at h2
        show _ = _
        have : (List.range xs.length).all (okAt xs) = true := by
          rw [List.all_eq_true]
          intro j hj
          exact hall j (by simp at hj; omega)
        have e : decide ((xs.length : Int) ≤ 48) = decide (xs.length ≤ 48) := by
          apply decide_eq_decide.2; omega
        rw [e]
        simp [ddtOk, this]) ⟨0, by omega, by omega, fun j hj => by omega⟩
  · exact h.elim
theorem h46 : G1Ok Tryz.prog 46 g112 := by
  intro args obs k h
  unfold g112 at h
  split at h
  · rename_i k xs
    obtain ⟨hlen, h⟩ := br_and h
    simp at hlen
    refine ⟨_, ctr_fn ok0 hg46 Tryz.func46 (by kernel_rfl) (by kernel_rfl) (by kernel_rfl) fun C => ?_, h⟩
    rw [e46]
    refine br_intro (fun hb => ?_) (fun hb => ?_)
    · simp at hb
      have : ddtOk xs = false := by simp [ddtOk]; omega
      rw [this]
    have h222 : xs.length ≤ 48 := by simp at hb; omega
    have hb' : decide ((xs.length : Int) > 48) = false := hb
    exact loopR okf46 hg46 (ι := {i : Int // 0 ≤ i ∧ i ≤ xs.length ∧ ∀ j : Nat, (j : Int) < i → okAt xs j = true}) (fun i => st46 xs i.1) (fun i => (xs.length - i.1).toNat) (fun ⟨i, h0, h1, hall⟩ => by
      show evP E46 G46 _ (lp46 4) (st46 xs i) (rk46 _ _ 4 _)
      rw [b46]
      have hw1 : IntKind.i64.wrap (i + 1) = i + 1 := wrap_id (by omega) (by omega)
      have hw2 : IntKind.i64.wrap (i - 1) = i - 1 := wrap_id (by omega) (by omega)
      rw [hw1, hw2]
      refine br_intro (fun h2 => ?_) (fun h2 => ?_)
      · simp at h2
        have hi : ((i.toNat : Nat) : Int) = i := by omega
        have bad : okAt xs i.toNat = false → ddtOk xs = false := by
          intro hb
          have : (List.range xs.length).all (okAt xs) = false := by
            rw [List.all_eq_false]
            exact ⟨i.toNat, by simp; omega, by simp [hb]⟩
          simp [ddtOk, this]
        have next : okAt xs i.toNat = true → ∃ j : {i : Int // 0 ≤ i ∧ i ≤ xs.length ∧ ∀ j : Nat, (j : Int) < i → okAt xs j = true}, st46 xs (i + 1) = st46 xs j.1 ∧ (xs.length - j.1).toNat < (xs.length - i).toNat := by
          intro hok
          refine ⟨⟨i + 1, by omega, by omega, fun j hj => ?_⟩, rfl, by show (xs.length - (i + 1)).toNat < _; omega⟩
          by_cases e : (j : Int) < i
          · exact hall j e
          · have : j = i.toNat := by omega
            rw [this]; exact hok
        refine br_intro (fun _ => ?_) (fun h3 => by simp at h3; omega)
        refine br_intro (fun h3 => ?_) (fun h3 => ?_)
        · show _ = _
          rw [bad (by unfold okAt at3; simp at h3; simp [h3])]
        · simp at h3
          refine br_intro (fun h4 => ?_) (fun h4 => ?_)
          · simp at h4
            have hj : (i - 1).toNat = i.toNat - 1 := by omega
            have hne : ¬ i.toNat = 0 := by omega
            refine br_intro (fun _ => ?_) (fun h5 => by simp at h5; omega)
            refine br_intro (fun _ => ?_) (fun h5 => by simp at h5; omega)
            refine br_intro (fun h5 => ?_) (fun h5 => ?_)
            · show _ = _
              rw [bad (by unfold okAt at3; rw [hj] at h5; simp at h5; simp [hne]; intro _; omega)]
            · exact next (by unfold okAt at3; rw [hj] at h5; simp at h5; simp [hne, h3]; omega)
          · simp at h4
            have h0' : i.toNat = 0 := by omega
            exact next (by unfold okAt at3; simp [h0'] at h3 ⊢; simp [h3])
      · simp at h2
        show _ = _
        have : (List.range xs.length).all (okAt xs) = true := by
          rw [List.all_eq_true]
          intro j hj
          exact hall j (by simp at hj; omega)
        simp [ddtOk, this, h222]) ⟨0, by omega, by omega, fun j hj => by omega⟩
  · exact h.elim
end Go.Proofs.YtkjnijddbiconaaGreatDoor.Ev

