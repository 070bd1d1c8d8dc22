/- The law of DdtText. -/
import Derived.Test.YtkjnijddbiconaaDoorD5
import Derived.Test.YtkjnijddbiconaaDoorD3
namespace Go.Proofs.YtkjnijddbiconaaDoor.Ev
open Go
set_option linter.unusedVariables false
set_option linter.unusedSimpArgs false
set_option maxRecDepth 100000
def entT (e : Elem k3) : ByteArray := dec e.1 ++ ⟨#[46]⟩ ++ dec e.2.1 ++ ⟨#[46]⟩ ++ dec e.2.2.1
def entS (xs : List (Elem k3)) : List (Elem ks) := xs.map fun e => (entT e, ())
def ddtT (xs : List (Elem k3)) : ByteArray := match ddtOk xs with
  | true => joinT (entS xs) ⟨#[32]⟩
  | false => ByteArray.empty
def g22 : G1
  | [.rsl [.int .i64, .int .i64, .int .i64] xs], [], k => br (decide (xs.length ≤ 1048576)) (k ⟨.val (.string (ddtT xs)), [], []⟩) False
  | _, _, _ => False
theorem ddtOk_len {xs : List (Elem k3)} (h : ddtOk xs = true) : xs.length ≤ 48 := by
  simp [ddtOk] at h
  exact h.1
theorem ddtOk_ent {xs : List (Elem k3)} (h : ddtOk xs = true) {k : Nat} (hk : k < xs.length) : (0 ≤ (xs.getD k (edflt k3)).1 ∧ (xs.getD k (edflt k3)).1 ≤ 65520) ∧ (0 ≤ (xs.getD k (edflt k3)).2.1 ∧ (xs.getD k (edflt k3)).2.1 ≤ 65520) ∧ (0 ≤ (xs.getD k (edflt k3)).2.2.1 ∧ (xs.getD k (edflt k3)).2.2.1 ≤ 65520) := by
  simp only [ddtOk, Bool.and_eq_true, List.all_eq_true] at h
  have := h.2 k (by simpa using hk)
  simp only [okAt, at3, entryOk, within, Bool.and_eq_true] at this
  obtain ⟨⟨⟨⟨a1, a2⟩, a3, a4⟩, a5, a6⟩, _⟩ := this
  exact ⟨⟨of_decide_eq_true a1, of_decide_eq_true a2⟩, ⟨Int.le_trans (by decide) (of_decide_eq_true a3), Int.le_trans (of_decide_eq_true a4) (by decide)⟩, ⟨Int.le_trans (by decide) (of_decide_eq_true a5), Int.le_trans (of_decide_eq_true a6) (by decide)⟩⟩
theorem big {x : Int} (h : 0 ≤ x ∧ x ≤ 65520) : 0 ≤ x ∧ x ≤ 9223372036854775807 := ⟨h.1, by omega⟩
theorem ent_size {a : Int} (ha : 0 ≤ a ∧ a ≤ 65520) : (dec a).size ≤ 32761 := by
  have s1 := dec_size (n := a) (by omega) (by omega)
  omega
theorem intercalate_snoc (s x : List UInt8) : ∀ (l : List (List UInt8)), l ≠ [] → s.intercalate (l ++ [x]) = s.intercalate l ++ s ++ x
  | [], h => absurd rfl h
  | [y], _ => by simp [List.intercalate, List.intersperse]
  | y :: z :: l, _ => by
    have ih := intercalate_snoc s x (z :: l) (by simp)
    simp only [List.intercalate, List.cons_append, List.intersperse, List.flatten_cons] at ih ⊢
    cases l with
    | nil =>
      simp [List.intersperse] at ih ⊢
    | cons u l =>
      simp only [List.cons_append, List.intersperse, List.flatten_cons, List.append_assoc] at ih ⊢
      rw [ih]
theorem joinT_one (t sep : ByteArray) : joinT [(t, ())] sep = t := by
  unfold joinT
  apply ByteArray.ext
  apply Array.ext'
  simp [List.intercalate, List.intersperse]
theorem joinT_snoc (ys : List (Elem ks)) (t sep : ByteArray) (h : ys ≠ []) : joinT (ys ++ [(t, ())]) sep = joinT ys sep ++ sep ++ t := by
  unfold joinT
  rw [List.map_append]
  apply ByteArray.ext
  rw [ByteArray.data_append, ByteArray.data_append]
  apply Array.ext'
  rw [Array.toList_append, Array.toList_append]
  show sep.data.toList.intercalate (ys.map _ ++ [t.data.toList]) = sep.data.toList.intercalate _ ++ sep.data.toList ++ t.data.toList
  exact intercalate_snoc _ _ _ (by simpa using h)
theorem entS_next (xs : List (Elem k3)) {i : Nat} (hi : i < xs.length) : (entS xs).take (i + 1) = (entS xs).take i ++ [(entT (xs.getD i (edflt k3)), ())] := by
  have hx : (entS xs)[i]? = some (entT (xs.getD i (edflt k3)), ()) := by
    unfold entS
    rw [List.getElem?_map, List.getD_eq_getElem?_getD, List.getElem?_eq_getElem hi]
    rfl
  rw [List.take_add_one, hx]
  rfl
noncomputable def E22 : Env := E0.of Tryd.f22
noncomputable def G22 : Gk := gk [(23, g46), (33, g33p)]
noncomputable def lp22 (n : Nat) : Code := (loopOf n (codeOf Tryd.f22)).getD .skip
noncomputable def ct22 (L : Lp) (R : Option Res → Prop) (n : Nat) : Kt := contOf E22 G22 L n (codeOf Tryd.f22) (endK E22 Tryd.f22.results.toList R)
noncomputable def rk22 (L : Lp) (R : Option Res → Prop) (n : Nat) (N : St → Prop) : Kt := rk (jof E22 (lp22 n)) N (ct22 L R n)
noncomputable def LOOP22 (L : Lp) (R : Option Res → Prop) (n : Nat) (st : St) : Prop := L (lp22 n) st (ct22 L R n)
theorem hg22 : HG Tryd.prog G22 := (hg_cons h23 (hg_cons h33p hg_nil))
theorem okf22 : Ok Tryd.prog E22 := ok0.of Tryd.f22
theorem e22 (L : Lp) (R : Option Res → Prop) (xs : List (Elem k3)) : (bodyP E0 G22 L Tryd.f22 [.rsl k3 xs] [] R) = (
    LOOP22 L R 3 { tm := [AV.rsl k3 xs, vU, vS { data := #[] }, vS { data := #[] }, vI 0, vJ, vJ, vJ, vJ, vJ, vJ, vJ, vJ, vJ, vJ, vJ, vJ, vJ, vJ, vJ, vJ, vJ, vJ, vJ, vJ, vJ, vJ, vJ, vJ, vJ, vJ, vJ, vJ, vJ, vJ, vJ, vJ, vJ, vJ, vJ, vJ, vJ, vJ, vU], ob := [], nx := 1000000, ps := [] }) := by kernel_rfl
def st22 (xs : List (Elem k3)) (o : ByteArray) (i : Int) : St :=  ⟨[AV.rsl k3 xs, vU, vS { data := #[] }, .val (.string o), .val (.int .i64 i), vJ, vJ, vJ, vJ, vJ, vJ, vJ, vJ, vJ, vJ, vJ, vJ, vJ, vJ, vJ, vJ, vJ, vJ, vJ, vJ, vJ, vJ, vJ, vJ, vJ, vJ, vJ, vJ, vJ, vJ, vJ, vJ, vJ, vJ, vJ, vJ, vJ, vJ, vU], [], 1000000, []⟩
theorem b22 (L : Lp) (R : Option Res → Prop) (N : St → Prop) (xs : List (Elem k3)) (o : ByteArray) (i : Int) : (evP E22 G22 L (lp22 3) (st22 xs o i) (rk22 L R 3 N)) = (
    br (decide (xs.length ≤ 1048576)) (br (ddtOk xs) (br (decide (i < (↑xs.length : Int))) (br (decide (i > 0)) (br (decide (o.size + 1 ≤ 9223372036854775807)) (br (decide (0 ≤ i ∧ i < (↑xs.length : Int))) (br (decide (0 ≤ (xs.getD i.toNat (edflt k3)).fst ∧ (xs.getD i.toNat (edflt k3)).fst ≤ 9223372036854775807)) (br (decide ((o ++ { data := #[32] }).size + (dec (xs.getD i.toNat (edflt k3)).fst).size ≤ 9223372036854775807)) (br (decide ((o ++ { data := #[32] } ++ dec (xs.getD i.toNat (edflt k3)).fst).size + 1 ≤ 9223372036854775807)) (br (decide (0 ≤ i ∧ i < (↑xs.length : Int))) (br (decide (0 ≤ (xs.getD i.toNat (edflt k3)).snd.fst ∧ (xs.getD i.toNat (edflt k3)).snd.fst ≤ 9223372036854775807)) (br (decide ((o ++ { data := #[32] } ++ dec (xs.getD i.toNat (edflt k3)).fst ++ { data := #[46] }).size + (dec (xs.getD i.toNat (edflt k3)).snd.fst).size ≤ 9223372036854775807)) (br (decide ((o ++ { data := #[32] } ++ dec (xs.getD i.toNat (edflt k3)).fst ++ { data := #[46] } ++ dec (xs.getD i.toNat (edflt k3)).snd.fst).size + 1 ≤ 9223372036854775807)) (br (decide (0 ≤ i ∧ i < (↑xs.length : Int))) (br (decide (0 ≤ (xs.getD i.toNat (edflt k3)).snd.snd.fst ∧ (xs.getD i.toNat (edflt k3)).snd.snd.fst ≤ 9223372036854775807)) (br (decide ((o ++ { data := #[32] } ++ dec (xs.getD i.toNat (edflt k3)).fst ++ { data := #[46] } ++ dec (xs.getD i.toNat (edflt k3)).snd.fst ++ { data := #[46] }).size + (dec (xs.getD i.toNat (edflt k3)).snd.snd.fst).size ≤ 9223372036854775807)) (N { tm := [AV.rsl k3 xs, vU, vS { data := #[] }, vS (o ++ { data := #[32] } ++ dec (xs.getD i.toNat (edflt k3)).fst ++ { data := #[46] } ++ dec (xs.getD i.toNat (edflt k3)).snd.fst ++ { data := #[46] } ++ dec (xs.getD i.toNat (edflt k3)).snd.snd.fst), vI (IntKind.i64.wrap (i + 1)), vJ, vJ, vJ, vJ, vJ, vJ, vJ, vJ, vJ, vJ, vJ, vJ, vJ, vJ, vJ, vJ, vJ, vJ, vJ, vJ, vJ, vJ, vJ, vJ, vJ, vJ, vJ, vJ, vJ, vJ, vJ, vJ, vJ, vJ, vJ, vJ, vJ, vJ, vU], ob := [], nx := 1000000, ps := [] }) False) False) False) False) False) False) False) False) False) False) False) False) (br (decide (0 ≤ i ∧ i < (↑xs.length : Int))) (br (decide (0 ≤ (xs.getD i.toNat (edflt k3)).fst ∧ (xs.getD i.toNat (edflt k3)).fst ≤ 9223372036854775807)) (br (decide (o.size + (dec (xs.getD i.toNat (edflt k3)).fst).size ≤ 9223372036854775807)) (br (decide ((o ++ dec (xs.getD i.toNat (edflt k3)).fst).size + 1 ≤ 9223372036854775807)) (br (decide (0 ≤ i ∧ i < (↑xs.length : Int))) (br (decide (0 ≤ (xs.getD i.toNat (edflt k3)).snd.fst ∧ (xs.getD i.toNat (edflt k3)).snd.fst ≤ 9223372036854775807)) (br (decide ((o ++ dec (xs.getD i.toNat (edflt k3)).fst ++ { data := #[46] }).size + (dec (xs.getD i.toNat (edflt k3)).snd.fst).size ≤ 9223372036854775807)) (br (decide ((o ++ dec (xs.getD i.toNat (edflt k3)).fst ++ { data := #[46] } ++ dec (xs.getD i.toNat (edflt k3)).snd.fst).size + 1 ≤ 9223372036854775807)) (br (decide (0 ≤ i ∧ i < (↑xs.length : Int))) (br (decide (0 ≤ (xs.getD i.toNat (edflt k3)).snd.snd.fst ∧ (xs.getD i.toNat (edflt k3)).snd.snd.fst ≤ 9223372036854775807)) (br (decide ((o ++ dec (xs.getD i.toNat (edflt k3)).fst ++ { data := #[46] } ++ dec (xs.getD i.toNat (edflt k3)).snd.fst ++ { data := #[46] }).size + (dec (xs.getD i.toNat (edflt k3)).snd.snd.fst).size ≤ 9223372036854775807)) (N { tm := [AV.rsl k3 xs, vU, vS { data := #[] }, vS (o ++ dec (xs.getD i.toNat (edflt k3)).fst ++ { data := #[46] } ++ dec (xs.getD i.toNat (edflt k3)).snd.fst ++ { data := #[46] } ++ dec (xs.getD i.toNat (edflt k3)).snd.snd.fst), vI (IntKind.i64.wrap (i + 1)), vJ, vJ, vJ, vJ, vJ, vJ, vJ, vJ, vJ, vJ, vJ, vJ, vJ, vJ, vJ, vJ, vJ, vJ, vJ, vJ, vJ, vJ, vJ, vJ, vJ, vJ, vJ, vJ, vJ, vJ, vJ, vJ, vJ, vJ, vJ, vJ, vJ, vJ, vU], ob := [], nx := 1000000, ps := [] }) False) False) False) False) False) False) False) False) False) False) False)) (R (some { av := vS o, obs := [], outs := [] }))) (R (some { av := vS o, obs := [], outs := [] }))) False) := by kernel_rfl
theorem h22 : G1Ok Tryd.prog 22 g22 := by
  intro args obs k h
  unfold g22 at h
  split at h
  · rename_i k xs
    obtain ⟨hl, h⟩ := brd h
    refine ⟨_, ctr_fn ok0 hg22 Tryd.func22 (by kernel_rfl) (by kernel_rfl) (by kernel_rfl) fun C => ?_, h⟩
    rw [e22]
    refine loopUp okf22 hg22 (fun i o => st22 xs o i) xs.length (fun i o => o = joinT ((entS xs).take i) ⟨#[32]⟩ ∧ o.size ≤ 100000 * i ∧ (0 < i → ddtOk xs = true)) (fun N i o hi ⟨ho, hs, hd⟩ next => ?_) ⟨#[]⟩ ⟨rfl, Nat.le_refl _, fun h => absurd h (by omega)⟩
    show evP E22 G22 _ (lp22 3) (st22 xs o i) (rk22 _ _ 3 _)
    rw [b22, wrap_id (n := (i : Int) + 1) (by omega) (by omega), Int.toNat_natCast]
    have hel : (entS xs).length = xs.length := by simp [entS]
    refine br_yes hl (br_intro (fun h1 => br_dec (fun h2 => ?_) (fun h2 => ?_)) (fun h1 => ?_))
    · have h87 := ddtOk_len h1
      have hi' : i < xs.length := by omega
      obtain ⟨r1, r2, r3⟩ := ddtOk_ent h1 hi'
      have s1 := ent_size r1
      have s2 := ent_size r2
      have s3 := ent_size r3
      have e24 : (⟨#[32]⟩ : ByteArray).size = 1 := rfl
      have e7 : (⟨#[46]⟩ : ByteArray).size = 1 := rfl
      have et : (entT (xs.getD i (edflt k3))).size ≤ 98300 := by
        unfold entT
        simp only [ByteArray.size_append, e7]
        omega
      refine br_dec (fun h3 => ?_) (fun h3 => ?_)
      · refine br_yes (by omega) (br_yes ⟨by omega, h2⟩ (br_yes (big r1) (br_yes ?_ (br_yes ?_ (br_yes ⟨by omega, h2⟩ (br_yes (big r2) (br_yes ?_ (br_yes ?_ (br_yes ⟨by omega, h2⟩ (br_yes (big r3) (br_yes ?_ ?_)))))))))))
        · simp only [ByteArray.size_append, e24, e7]
          omega
        · simp only [ByteArray.size_append, e24, e7]
          omega
        · simp only [ByteArray.size_append, e24, e7]
          omega
        · simp only [ByteArray.size_append, e24, e7]
          omega
        · simp only [ByteArray.size_append, e24, e7]
          omega
        · have e : o ++ ⟨#[32]⟩ ++ dec (xs.getD i (edflt k3)).1 ++ ⟨#[46]⟩ ++ dec (xs.getD i (edflt k3)).2.1 ++ ⟨#[46]⟩ ++ dec (xs.getD i (edflt k3)).2.2.1 = o ++ ⟨#[32]⟩ ++ entT (xs.getD i (edflt k3)) := by
            unfold entT
            simp only [ByteArray.append_assoc]
          rw [e]
          refine next hi' _ ⟨?_, ?_, fun _ => h1⟩
          · rw [entS_next xs hi', joinT_snoc _ _ _ (fun e0 => by
              have := congrArg List.length e0
              rw [List.length_take, List.length_nil] at this
              omega), ← ho]
          · simp only [ByteArray.size_append, e24]
            omega
      · have h0 : i = 0 := by omega
        subst h0
        have ho0 : o = ⟨#[]⟩ := ho
        subst ho0
        have e0 : (⟨#[]⟩ : ByteArray).size = 0 := rfl
        refine br_yes ⟨by omega, h2⟩ (br_yes (big r1) (br_yes ?_ (br_yes ?_ (br_yes ⟨by omega, h2⟩ (br_yes (big r2) (br_yes ?_ (br_yes ?_ (br_yes ⟨by omega, h2⟩ (br_yes (big r3) (br_yes ?_ ?_))))))))))
        · simp only [ByteArray.size_append, e0, e7]
          omega
        · simp only [ByteArray.size_append, e0, e7]
          omega
        · simp only [ByteArray.size_append, e0, e7]
          omega
        · simp only [ByteArray.size_append, e0, e7]
          omega
        · simp only [ByteArray.size_append, e0, e7]
          omega
        · have e : (⟨#[]⟩ : ByteArray) ++ dec (xs.getD 0 (edflt k3)).1 ++ ⟨#[46]⟩ ++ dec (xs.getD 0 (edflt k3)).2.1 ++ ⟨#[46]⟩ ++ dec (xs.getD 0 (edflt k3)).2.2.1 = entT (xs.getD 0 (edflt k3)) := by
            unfold entT
            have : (⟨#[]⟩ : ByteArray) ++ dec (xs.getD 0 (edflt k3)).1 = dec (xs.getD 0 (edflt k3)).1 := ByteArray.empty_append
            rw [this]
          rw [e]
          refine next hi' _ ⟨?_, by omega, fun _ => h1⟩
          rw [entS_next xs hi']
          exact (joinT_one _ _).symm
    · show _ = _
      unfold ddtT
      rw [h1, ho, List.take_of_length_le (by omega)]
    · show _ = _
      have h0 : i = 0 := by
        cases i with
        | zero => rfl
        | succ i => rw [hd (by omega)] at h1; cases h1
      subst h0
      unfold ddtT
      rw [h1, ho]
      rfl
  · exact h.elim
theorem entT_join (e : Elem k3) : joinT (decS [(e.1, ()), (e.2.1, ()), (e.2.2.1, ())]) ⟨#[46]⟩ = entT e := by
  show joinT [(dec e.1, ()), (dec e.2.1, ()), (dec e.2.2.1, ())] ⟨#[46]⟩ = _
  rw [join3]
  rfl
end Go.Proofs.YtkjnijddbiconaaDoor.Ev
