/- The law of DdtText. -/
import Derived.Test.YtljilcingbohkaaDoorD5
namespace Go.Proofs.YtljilcingbohkaaDoor.Ev
open Go
set_option linter.unusedVariables false
set_option linter.unusedSimpArgs false
set_option maxRecDepth 100000
def entT (e : Elem k3) : ByteArray := dec e.1 ++ ⟨#[46]⟩ ++ dec e.2.1 ++ ⟨#[46]⟩ ++ dec e.2.2.1
def entS (xs : List (Elem k3)) : List (Elem ks) := xs.map fun e => (entT e, ())
def ddtT (xs : List (Elem k3)) : ByteArray := match ddtOk xs with
  | true => joinT (entS xs) ⟨#[32]⟩
  | false => ByteArray.empty
def g28 : G1
  | [.rsl [.int .i64, .int .i64, .int .i64] xs], [], k => br (decide (xs.length ≤ 1048576)) (k ⟨.val (.string (ddtT xs)), [], []⟩) False
  | _, _, _ => False
theorem ddtOk_len {xs : List (Elem k3)} (h : ddtOk xs = true) : xs.length ≤ 48 := by
  simp [ddtOk] at h
  exact h.1
theorem ddtOk_ent {xs : List (Elem k3)} (h : ddtOk xs = true) {k : Nat} (hk : k < xs.length) : (0 ≤ (xs.getD k (edflt k3)).1 ∧ (xs.getD k (edflt k3)).1 ≤ 65520) ∧ (0 ≤ (xs.getD k (edflt k3)).2.1 ∧ (xs.getD k (edflt k3)).2.1 ≤ 65520) ∧ (0 ≤ (xs.getD k (edflt k3)).2.2.1 ∧ (xs.getD k (edflt k3)).2.2.1 ≤ 65520) := by
  simp only [ddtOk, Bool.and_eq_true, List.all_eq_true] at h
  have := h.2 k (by simpa using hk)
  simp only [okAt, at3, entryOk, within, Bool.and_eq_true] at this
  obtain ⟨⟨⟨⟨a1, a2⟩, a3, a4⟩, a5, a6⟩, _⟩ := this
  exact ⟨⟨of_decide_eq_true a1, of_decide_eq_true a2⟩, ⟨Int.le_trans (by decide) (of_decide_eq_true a3), Int.le_trans (of_decide_eq_true a4) (by decide)⟩, ⟨Int.le_trans (by decide) (of_decide_eq_true a5), Int.le_trans (of_decide_eq_true a6) (by decide)⟩⟩
theorem big {x : Int} (h : 0 ≤ x ∧ x ≤ 65520) : 0 ≤ x ∧ x ≤ 9223372036854775807 := ⟨h.1, by omega⟩
theorem ent_size {a : Int} (ha : 0 ≤ a ∧ a ≤ 65520) : (dec a).size ≤ 32761 := by
  have s1 := dec_size (n := a) (by omega) (by omega)
  omega
theorem intercalate_snoc (s x : List UInt8) : ∀ (l : List (List UInt8)), l ≠ [] → s.intercalate (l ++ [x]) = s.intercalate l ++ s ++ x
  | [], h => absurd rfl h
  | [y], _ => by simp [List.intercalate, List.intersperse]
  | y :: z :: l, _ => by
    have ih := intercalate_snoc s x (z :: l) (by simp)
    simp only [List.intercalate, List.cons_append, List.intersperse, List.flatten_cons] at ih ⊢
    cases l with
    | nil =>
      simp [List.intersperse] at ih ⊢
    | cons u l =>
      simp only [List.cons_append, List.intersperse, List.flatten_cons, List.append_assoc] at ih ⊢
      rw [ih]
theorem joinT_one (t sep : ByteArray) : joinT [(t, ())] sep = t := by
  unfold joinT
  apply ByteArray.ext
  apply Array.ext'
  simp [List.intercalate, List.intersperse]
theorem joinT_snoc (ys : List (Elem ks)) (t sep : ByteArray) (h : ys ≠ []) : joinT (ys ++ [(t, ())]) sep = joinT ys sep ++ sep ++ t := by
  unfold joinT
  rw [List.map_append]
  apply ByteArray.ext
  rw [ByteArray.data_append, ByteArray.data_append]
  apply Array.ext'
  rw [Array.toList_append, Array.toList_append]
  show sep.data.toList.intercalate (ys.map _ ++ [t.data.toList]) = sep.data.toList.intercalate _ ++ sep.data.toList ++ t.data.toList
  exact intercalate_snoc _ _ _ (by simpa using h)
theorem entS_next (xs : List (Elem k3)) {i : Nat} (hi : i < xs.length) : (entS xs).take (i + 1) = (entS xs).take i ++ [(entT (xs.getD i (edflt k3)), ())] := by
  have hx : (entS xs)[i]? = some (entT (xs.getD i (edflt k3)), ()) := by
    unfold entS
    rw [List.getElem?_map, List.getD_eq_getElem?_getD, List.getElem?_eq_getElem hi]
    rfl
  rw [List.take_add_one, hx]
  rfl
noncomputable def E28 : Env := E0.of Tryd.f28
noncomputable def G28 : Gk := gk [(56, g58), (43, g43p)]
noncomputable def lp28 (n : Nat) : Code := (loopOf n (codeOf Tryd.f28)).getD .skip
noncomputable def ct28 (L : Lp) (R : Option Res → Prop) (n : Nat) : Kt := contOf E28 G28 L n (codeOf Tryd.f28) (endK E28 Tryd.f28.results.toList R)
noncomputable def rk28 (L : Lp) (R : Option Res → Prop) (n : Nat) (N : St → Prop) : Kt := rk (jof E28 (lp28 n)) N (ct28 L R n)
noncomputable def LOOP28 (L : Lp) (R : Option Res → Prop) (n : Nat) (st : St) : Prop := L (lp28 n) st (ct28 L R n)
theorem hg28 : HG Tryd.prog G28 := (hg_cons h56 (hg_cons h43p hg_nil))
theorem okf28 : Ok Tryd.prog E28 := ok0.of Tryd.f28
theorem e28 (L : Lp) (R : Option Res → Prop) (xs : List (Elem k3)) : (bodyP E0 G28 L Tryd.f28 [.rsl k3 xs] [] R) = (
    LOOP28 L R 3 { tm := [AV.rsl k3 xs, vU, vS { data := #[] }, vS { data := #[] }, vI 0, vJ, vJ, vJ, vJ, vJ, vJ, vJ, vJ, vJ, vJ, vJ, vJ, vJ, vJ, vJ, vJ, vJ, vJ, vJ, vJ, vJ, vJ, vJ, vJ, vJ, vJ, vJ, vJ, vJ, vJ, vJ, vJ, vJ, vJ, vJ, vJ, vJ, vJ, vU], ob := [], nx := 1000000, ps := [] }) := by kernel_rfl
def st28 (xs : List (Elem k3)) (o : ByteArray) (i : Int) : St :=  ⟨[AV.rsl k3 xs, vU, vS { data := #[] }, .val (.string o), .val (.int .i64 i), vJ, vJ, vJ, vJ, vJ, vJ, vJ, vJ, vJ, vJ, vJ, vJ, vJ, vJ, vJ, vJ, vJ, vJ, vJ, vJ, vJ, vJ, vJ, vJ, vJ, vJ, vJ, vJ, vJ, vJ, vJ, vJ, vJ, vJ, vJ, vJ, vJ, vJ, vU], [], 1000000, []⟩
theorem b28 (L : Lp) (R : Option Res → Prop) (N : St → Prop) (xs : List (Elem k3)) (o : ByteArray) (i : Int) : (evP E28 G28 L (lp28 3) (st28 xs o i) (rk28 L R 3 N)) = (
    br (decide (xs.length ≤ 1048576)) (br (ddtOk xs) (br (decide (i < (↑xs.length : Int))) (br (decide (i > 0)) (br (decide (o.size + 1 ≤ 9223372036854775807)) (br (decide (0 ≤ i ∧ i < (↑xs.length : Int))) (br (decide (0 ≤ (xs.getD i.toNat (edflt k3)).fst ∧ (xs.getD i.toNat (edflt k3)).fst ≤ 9223372036854775807)) (br (decide ((o ++ { data := #[32] }).size + (dec (xs.getD i.toNat (edflt k3)).fst).size ≤ 9223372036854775807)) (br (decide ((o ++ { data := #[32] } ++ dec (xs.getD i.toNat (edflt k3)).fst).size + 1 ≤ 9223372036854775807)) (br (decide (0 ≤ i ∧ i < (↑xs.length : Int))) (br (decide (0 ≤ (xs.getD i.toNat (edflt k3)).snd.fst ∧ (xs.getD i.toNat (edflt k3)).snd.fst ≤ 9223372036854775807)) (br (decide ((o ++ { data := #[32] } ++ dec (xs.getD i.toNat (edflt k3)).fst ++ { data := #[46] }).size + (dec (xs.getD i.toNat (edflt k3)).snd.fst).size ≤ 9223372036854775807)) (br (decide ((o ++ { data := #[32] } ++ dec (xs.getD i.toNat (edflt k3)).fst ++ { data := #[46] } ++ dec (xs.getD i.toNat (edflt k3)).snd.fst).size + 1 ≤ 9223372036854775807)) (br (decide (0 ≤ i ∧ i < (↑xs.length : Int))) (br (decide (0 ≤ (xs.getD i.toNat (edflt k3)).snd.snd.fst ∧ (xs.getD i.toNat (edflt k3)).snd.snd.fst ≤ 9223372036854775807)) (br (decide ((o ++ { data := #[32] } ++ dec (xs.getD i.toNat (edflt k3)).fst ++ { data := #[46] } ++ dec (xs.getD i.toNat (edflt k3)).snd.fst ++ { data := #[46] }).size + (dec (xs.getD i.toNat (edflt k3)).snd.snd.fst).size ≤ 9223372036854775807)) (N { tm := [AV.rsl k3 xs, vU, vS { data := #[] }, vS (o ++ { data := #[32] } ++ dec (xs.getD i.toNat (edflt k3)).fst ++ { data := #[46] } ++ dec (xs.getD i.toNat (edflt k3)).snd.fst ++ { data := #[46] } ++ dec (xs.getD i.toNat (edflt k3)).snd.snd.fst), vI (IntKind.i64.wrap (i + 1)), vJ, vJ, vJ, vJ, vJ, vJ, vJ, vJ, vJ, vJ, vJ, vJ, vJ, vJ, vJ, vJ, vJ, vJ, vJ, vJ, vJ, vJ, vJ, vJ, vJ, vJ, vJ, vJ, vJ, vJ, vJ, vJ, vJ, vJ, vJ, vJ, vJ, vJ, vU], ob := [], nx := 1000000, ps := [] }) False) False) False) False) False) False) False) False) False) False) False) False) (br (decide (0 ≤ i ∧ i < (↑xs.length : Int))) (br (decide (0 ≤ (xs.getD i.toNat (edflt k3)).fst ∧ (xs.getD i.toNat (edflt k3)).fst ≤ 9223372036854775807)) (br (decide (o.size + (dec (xs.getD i.toNat (edflt k3)).fst).size ≤ 9223372036854775807)) (br (decide ((o ++ dec (xs.getD i.toNat (edflt k3)).fst).size + 1 ≤ 9223372036854775807)) (br (decide (0 ≤ i ∧ i < (↑xs.length : Int))) (br (decide (0 ≤ (xs.getD i.toNat (edflt k3)).snd.fst ∧ (xs.getD i.toNat (edflt k3)).snd.fst ≤ 9223372036854775807)) (br (decide ((o ++ dec (xs.getD i.toNat (edflt k3)).fst ++ { data := #[46] }).size + (dec (xs.getD i.toNat (edflt k3)).snd.fst).size ≤ 9223372036854775807)) (br (decide ((o ++ dec (xs.getD i.toNat (edflt k3)).fst ++ { data := #[46] } ++ dec (xs.getD i.toNat (edflt k3)).snd.fst).size + 1 ≤ 9223372036854775807)) (br (decide (0 ≤ i ∧ i < (↑xs.length : Int))) (br (decide (0 ≤ (xs.getD i.toNat (edflt k3)).snd.snd.fst ∧ (xs.getD i.toNat (edflt k3)).snd.snd.fst ≤ 9223372036854775807)) (br (decide ((o ++ dec (xs.getD i.toNat (edflt k3)).fst ++ { data := #[46] } ++ dec (xs.getD i.toNat (edflt k3)).snd.fst ++ { data := #[46] }).size + (dec (xs.getD i.toNat (edflt k3)).snd.snd.fst).size ≤ 9223372036854775807)) (N { tm := [AV.rsl k3 xs, vU, vS { data := #[] }, vS (o ++ dec (xs.getD i.toNat (edflt k3)).fst ++ { data := #[46] } ++ dec (xs.getD i.toNat (edflt k3)).snd.fst ++ { data := #[46] } ++ dec (xs.getD i.toNat (edflt k3)).snd.snd.fst), vI (IntKind.i64.wrap (i + 1)), vJ, vJ, vJ, vJ, vJ, vJ, vJ, vJ, vJ, vJ, vJ, vJ, vJ, vJ, vJ, vJ, vJ, vJ, vJ, vJ, vJ, vJ, vJ, vJ, vJ, vJ, vJ, vJ, vJ, vJ, vJ, vJ, vJ, vJ, vJ, vJ, vJ, vJ, vU], ob := [], nx := 1000000, ps := [] }) False) False) False) False) False) False) False) False) False) False) False)) (R (some { av := vS o, obs := [], outs := [] }))) (R (some { av := vS o, obs := [], outs := [] }))) False) := by kernel_rfl
theorem h28 : G1Ok Tryd.prog 28 g28 := by
  intro args obs k h
  unfold g28 at h
  split at h
  · rename_i k xs
    obtain ⟨hl, h⟩ := brd h
    refine ⟨_, ctr_fn ok0 hg28 Tryd.func28 (by kernel_rfl) (by kernel_rfl) (by kernel_rfl) fun C => ?_, h⟩
    rw [e28]
    refine loopUp okf28 hg28 (fun i o => st28 xs o i) xs.length (fun i o => o = joinT ((entS xs).take i) ⟨#[32]⟩ ∧ o.size ≤ 100000 * i ∧ (0 < i → ddtOk xs = true)) (fun N i o hi ⟨ho, hs, hd⟩ next => ?_) ⟨#[]⟩ ⟨rfl, Nat.le_refl _, fun h => absurd h (by omega)⟩
    show evP E28 G28 _ (lp28 3) (st28 xs o i) (rk28 _ _ 3 _)
    rw [b28, wrap_id (n := (i : Int) + 1) (by omega) (by omega), Int.toNat_natCast]
    have hel : (entS xs).length = xs.length := by simp [entS]
    refine br_yes hl (br_intro (fun h1 => br_dec (fun h2 => ?_) (fun h2 => ?_)) (fun h1 => ?_))
    · have h48 := ddtOk_len h1
      have hi' : i < xs.length := by omega
      obtain ⟨r1, r2, r3⟩ := ddtOk_ent h1 hi'
      have s1 := ent_size r1
      have s2 := ent_size r2
      have s3 := ent_size r3
      have e32 : (⟨#[32]⟩ : ByteArray).size = 1 := rfl
      have e46 : (⟨#[46]⟩ : ByteArray).size = 1 := rfl
      have et : (entT (xs.getD i (edflt k3))).size ≤ 98300 := by
        unfold entT
        simp only [ByteArray.size_append, e46]
        omega
      refine br_dec (fun h3 => ?_) (fun h3 => ?_)
      · refine br_yes (by omega) (br_yes ⟨by omega, h2⟩ (br_yes (big r1) (br_yes ?_ (br_yes ?_ (br_yes ⟨by omega, h2⟩ (br_yes (big r2) (br_yes ?_ (br_yes ?_ (br_yes ⟨by omega, h2⟩ (br_yes (big r3) (br_yes ?_ ?_)))))))))))
        · simp only [ByteArray.size_append, e32, e46]
          omega
        · simp only [ByteArray.size_append, e32, e46]
          omega
        · simp only [ByteArray.size_append, e32, e46]
          omega
        · simp only [ByteArray.size_append, e32, e46]
          omega
        · simp only [ByteArray.size_append, e32, e46]
          omega
        · have e : o ++ ⟨#[32]⟩ ++ dec (xs.getD i (edflt k3)).1 ++ ⟨#[46]⟩ ++ dec (xs.getD i (edflt k3)).2.1 ++ ⟨#[46]⟩ ++ dec (xs.getD i (edflt k3)).2.2.1 = o ++ ⟨#[32]⟩ ++ entT (xs.getD i (edflt k3)) := by
            unfold entT
            simp only [ByteArray.append_assoc]
          rw [e]
          refine next hi' _ ⟨?_, ?_, fun _ => h1⟩
          · rw [entS_next xs hi', joinT_snoc _ _ _ (fun e0 => by
              have := congrArg List.length e0
              rw [List.length_take, List.length_nil] at this
              omega), ← ho]
          · simp only [ByteArray.size_append, e32]
            omega
      · have h0 : i = 0 := by omega
        subst h0
        have ho0 : o = ⟨#[]⟩ := ho
        subst ho0
        have e0 : (⟨#[]⟩ : ByteArray).size = 0 := rfl
        refine br_yes ⟨by omega, h2⟩ (br_yes (big r1) (br_yes ?_ (br_yes ?_ (br_yes ⟨by omega, h2⟩ (br_yes (big r2) (br_yes ?_ (br_yes ?_ (br_yes ⟨by omega, h2⟩ (br_yes (big r3) (br_yes ?_ ?_))))))))))
        · simp only [ByteArray.size_append, e0, e46]
          omega
        · simp only [ByteArray.size_append, e0, e46]
          omega
        · simp only [ByteArray.size_append, e0, e46]
          omega
        · simp only [ByteArray.size_append, e0, e46]
          omega
        · simp only [ByteArray.size_append, e0, e46]
          omega
        · have e : (⟨#[]⟩ : ByteArray) ++ dec (xs.getD 0 (edflt k3)).1 ++ ⟨#[46]⟩ ++ dec (xs.getD 0 (edflt k3)).2.1 ++ ⟨#[46]⟩ ++ dec (xs.getD 0 (edflt k3)).2.2.1 = entT (xs.getD 0 (edflt k3)) := by
            unfold entT
            have : (⟨#[]⟩ : ByteArray) ++ dec (xs.getD 0 (edflt k3)).1 = dec (xs.getD 0 (edflt k3)).1 := ByteArray.empty_append
            rw [this]
          rw [e]
          refine next hi' _ ⟨?_, by omega, fun _ => h1⟩
          rw [entS_next xs hi']
          exact (joinT_one _ _).symm
    · show _ = _
      unfold ddtT
      rw [h1, ho, List.take_of_length_le (by omega)]
    · show _ = _
      have h0 : i = 0 := by
        cases i with
        | zero => rfl
        | succ i => rw [hd (by omega)] at h1; cases h1
      subst h0
      unfold ddtT
      rw [h1, ho]
      rfl
  · exact h.elim
noncomputable def E30 : Env := E0.of Tryd.f30
noncomputable def G30 : Gk := gk [(58, g58), (51, g51), (52, g52)]
noncomputable def lp30 (n : Nat) : Code := (loopOf n (codeOf Tryd.f30)).getD .skip
noncomputable def ct30 (L : Lp) (R : Option Res → Prop) (n : Nat) : Kt := contOf E30 G30 L n (codeOf Tryd.f30) (endK E30 Tryd.f30.results.toList R)
noncomputable def rk30 (L : Lp) (R : Option Res → Prop) (n : Nat) (N : St → Prop) : Kt := rk (jof E30 (lp30 n)) N (ct30 L R n)
noncomputable def LOOP30 (L : Lp) (R : Option Res → Prop) (n : Nat) (st : St) : Prop := L (lp30 n) st (ct30 L R n)
theorem hg30 : HG Tryd.prog G30 := (hg_cons h58 (hg_cons h51 (hg_cons h52 hg_nil)))
theorem okf30 : Ok Tryd.prog E30 := ok0.of Tryd.f30
theorem e30 (L : Lp) (R : Option Res → Prop) (xs : List (Elem k3)) : (bodyP E0 G30 L Tryd.f30 [.rsl k3 xs] [] R) = (
    br (decide (xs.length ≤ 1048576)) (br (!ddtOk xs) (R (some { av := vS { data := #[] }, obs := [], outs := [] })) (LOOP30 L R 5 { tm := [AV.rsl k3 xs, vU, vS { data := #[] }, AV.ows 0, vU, vJ, vJ, vJ, vJ, AV.rsl k3 xs, vI (↑xs.length : Int), vI 0, vJ, vJ, vJ, vJ, vJ, vJ, vJ, vJ, vJ, vJ, vJ, vJ, vJ, vJ, vJ, vU, vU], ob := [(0, AO.row ks [])], nx := 1000000, ps := [] })) False) := by kernel_rfl
def st30 (xs : List (Elem k3)) (i : Int) (ys : List (Elem ks)) : St :=  ⟨[AV.rsl k3 xs, vU, vS { data := #[] }, AV.ows 0, vU, vJ, vJ, vJ, vJ, AV.rsl k3 xs, vI (↑xs.length : Int), .val (.int .i64 i), vJ, vJ, vJ, vJ, vJ, vJ, vJ, vJ, vJ, vJ, vJ, vJ, vJ, vJ, vJ, vU, vU], [(0, .row ks ys)], 1000000, []⟩
theorem b30 (L : Lp) (R : Option Res → Prop) (N : St → Prop) (xs : List (Elem k3)) (i : Int) (ys : List (Elem ks)) : (evP E30 G30 L (lp30 5) (st30 xs i ys) (rk30 L R 5 N)) = (
    br (decide (i < (↑xs.length : Int))) (br (decide (0 ≤ i ∧ i < (↑xs.length : Int))) (br (allN [((xs.getD i.toNat (edflt k3)).fst, ()), ((xs.getD i.toNat (edflt k3)).snd.fst, ()), (xs.getD i.toNat (edflt k3)).snd.snd] && (decide ([((xs.getD i.toNat (edflt k3)).fst, ()), ((xs.getD i.toNat (edflt k3)).snd.fst, ()), (xs.getD i.toNat (edflt k3)).snd.snd].length ≤ 1048576) && decide ((joinT (decS [((xs.getD i.toNat (edflt k3)).fst, ()), ((xs.getD i.toNat (edflt k3)).snd.fst, ()), (xs.getD i.toNat (edflt k3)).snd.snd]) { data := #[46] }).size ≤ 1099511627776))) (br (decide ((ys.length + [(joinT (decS [((xs.getD i.toNat (edflt k3)).fst, ()), ((xs.getD i.toNat (edflt k3)).snd.fst, ()), (xs.getD i.toNat (edflt k3)).snd.snd]) { data := #[46] }, ())].length) * 16 ≤ 140737488355328)) (N { tm := [AV.rsl k3 xs, vU, vS { data := #[] }, AV.ows 0, vU, vJ, vJ, vJ, vJ, AV.rsl k3 xs, vI (↑xs.length : Int), vI (IntKind.i64.wrap (i + 1)), vJ, vJ, vJ, vJ, vJ, vJ, vJ, vJ, vJ, vJ, vJ, vJ, vJ, vJ, vJ, vU, vU], ob := [(0, AO.row ks (ys ++ [(joinT (decS [((xs.getD i.toNat (edflt k3)).fst, ()), ((xs.getD i.toNat (edflt k3)).snd.fst, ()), (xs.getD i.toNat (edflt k3)).snd.snd]) { data := #[46] }, ())]))], nx := 1000000, ps := [] }) False) False) False) (br (decide (ys.length ≤ 1048576) && decide ((joinT ys { data := #[32] }).size ≤ 1099511627776)) (R (some { av := vS (joinT ys { data := #[32] }), obs := [], outs := [] })) False)) := by kernel_rfl
theorem entT_join (e : Elem k3) : joinT (decS [(e.1, ()), (e.2.1, ()), (e.2.2.1, ())]) ⟨#[46]⟩ = entT e := by
  show joinT [(dec e.1, ()), (dec e.2.1, ()), (dec e.2.2.1, ())] ⟨#[46]⟩ = _
  rw [join3]
  rfl
theorem h30 : G1Ok Tryd.prog 30 g28 := by
  intro args obs k h
  unfold g28 at h
  split at h
  · rename_i k xs
    obtain ⟨hl, h⟩ := brd h
    refine ⟨_, ctr_fn ok0 hg30 Tryd.func30 (by kernel_rfl) (by kernel_rfl) (by kernel_rfl) fun C => ?_, h⟩
    rw [e30]
    refine br_yes hl (br_not (fun h1 => ?_) (fun h1 => ?_))
    · show _ = _
      unfold ddtT
      rw [h1]
      rfl
    have h48 := ddtOk_len h1
    have hel : (entS xs).length = xs.length := by simp [entS]
    refine loopUp okf30 hg30 (fun i ys => st30 xs i ys) xs.length (fun i ys => ys = (entS xs).take i ∧ (joinT ys ⟨#[32]⟩).size ≤ 100000 * i) (fun N i ys hi ⟨hy, hs⟩ next => ?_) [] ⟨rfl, Nat.le_refl _⟩
    show evP E30 G30 _ (lp30 5) (st30 xs i ys) (rk30 _ _ 5 _)
    rw [b30, wrap_id (n := (i : Int) + 1) (by omega) (by omega), Int.toNat_natCast]
    have hyl : ys.length = i := by rw [hy, List.length_take]; omega
    refine br_dec (fun h2 => ?_) (fun h2 => ?_)
    · have hi' : i < xs.length := by omega
      obtain ⟨r1, r2, r3⟩ := ddtOk_ent h1 hi'
      have s1 := ent_size r1
      have s2 := ent_size r2
      have s3 := ent_size r3
      have e46 : (⟨#[46]⟩ : ByteArray).size = 1 := rfl
      have et : (entT (xs.getD i (edflt k3))).size ≤ 98300 := by
        unfold entT
        simp only [ByteArray.size_append, e46]
        omega
      refine br_yes ⟨by omega, h2⟩ (br_t ?_ (br_yes ?_ ?_))
      · have n1 : inN (xs.getD i (edflt k3)).1 = true := inN_of (Int.le_trans (by decide) r1.1) (Int.le_trans r1.2 (by decide))
        have n2 : inN (xs.getD i (edflt k3)).2.1 = true := inN_of (Int.le_trans (by decide) r2.1) (Int.le_trans r2.2 (by decide))
        have n3 : inN (xs.getD i (edflt k3)).2.2.1 = true := inN_of (Int.le_trans (by decide) r3.1) (Int.le_trans r3.2 (by decide))
        have e2 : (joinT (decS [((xs.getD i (edflt k3)).1, ()), ((xs.getD i (edflt k3)).2.1, ()), ((xs.getD i (edflt k3)).2.2.1, ())]) ⟨#[46]⟩).size ≤ 1099511627776 := by
          rw [entT_join]
          omega
        show ((inN (xs.getD i (edflt k3)).1 && (inN (xs.getD i (edflt k3)).2.1 && (inN (xs.getD i (edflt k3)).2.2.1 && true))) && (true && decide ((joinT (decS [((xs.getD i (edflt k3)).1, ()), ((xs.getD i (edflt k3)).2.1, ()), ((xs.getD i (edflt k3)).2.2.1, ())]) ⟨#[46]⟩).size ≤ 1099511627776))) = true
        rw [n1, n2, n3, decide_eq_true e2]
        rfl
      · show (ys.length + 1) * 16 ≤ _
        omega
      · have e : joinT (decS [((xs.getD i (edflt k3)).1, ()), ((xs.getD i (edflt k3)).2.1, ()), (xs.getD i (edflt k3)).2.2]) ⟨#[46]⟩ = entT (xs.getD i (edflt k3)) := entT_join _
        rw [e]
        have hnx : (entS xs).take (i + 1) = ys ++ [(entT (xs.getD i (edflt k3)), ())] := by rw [entS_next xs hi', hy]
        refine next hi' _ ⟨hnx.symm, ?_⟩
        by_cases h0 : ys = []
        · rw [h0, List.nil_append, joinT_one]
          omega
        · rw [joinT_snoc _ _ _ h0, ByteArray.size_append, ByteArray.size_append]
          have : (⟨#[32]⟩ : ByteArray).size = 1 := rfl
          omega
    · have hyx : ys = entS xs := by rw [hy, List.take_of_length_le (by omega)]
      have e2 : (joinT ys ⟨#[32]⟩).size ≤ 1099511627776 := by omega
      refine br_t ?_ ?_
      · rw [decide_eq_true (show ys.length ≤ 1048576 by omega), decide_eq_true e2]
        rfl
      · show _ = _
        unfold ddtT
        rw [h1, hyx]
  · exact h.elim
noncomputable def E9 : Env := E0.of Tryd.f9
noncomputable def G9 : Gk := gk [(27, g27), (28, g28), (29, g29), (30, g28), (31, g31)]
noncomputable def lp9 (n : Nat) : Code := (loopOf n (codeOf Tryd.f9)).getD .skip
noncomputable def ct9 (L : Lp) (R : Option Res → Prop) (n : Nat) : Kt := contOf E9 G9 L n (codeOf Tryd.f9) (endK E9 Tryd.f9.results.toList R)
noncomputable def rk9 (L : Lp) (R : Option Res → Prop) (n : Nat) (N : St → Prop) : Kt := rk (jof E9 (lp9 n)) N (ct9 L R n)
noncomputable def LOOP9 (L : Lp) (R : Option Res → Prop) (n : Nat) (st : St) : Prop := L (lp9 n) st (ct9 L R n)
theorem hg9 : HG Tryd.prog G9 := (hg_cons h27 (hg_cons h28 (hg_cons h29 (hg_cons h30 (hg_cons h31 hg_nil)))))
theorem okf9 : Ok Tryd.prog E9 := ok0.of Tryd.f9
theorem e9 (L : Lp) (R : Option Res → Prop) (xs : List (Elem k3)) : (bodyP E0 G9 L Tryd.f9 [.rsl k3 xs] [] R) = (
    br (decide (IntKind.i64.wrap (1048576 - (↑xs.length : Int)) < 0)) (R (some { av := vB true, obs := [], outs := [] })) (br (decide (IntKind.i64.wrap (1048576 - (↑xs.length : Int)) < 0)) (R (some { av := vB true, obs := [], outs := [] })) (br (decide (xs.length ≤ 1048576)) (br (decide (xs.length ≤ 1048576)) (br (decide (xs.length ≤ 1048576)) (br (decide (xs.length ≤ 1048576)) (br (!strEq (ddtT xs) (ddtT xs)) (R (some { av := vB false, obs := [], outs := [] })) (br (decide (xs.length ≤ 1048576)) (br (decide (xs.length ≤ 1048576)) (br (!eqF xs xs) (R (some { av := vB false, obs := [], outs := [] })) (R (some { av := vB true, obs := [], outs := [] }))) False) False)) False) False) False) False))) := by kernel_rfl
theorem eq3_self (a : Elem k3) : eq3 a a = true := by simp [eq3]
theorem eqF_self (xs : List (Elem k3)) : eqF xs xs = true := by
  unfold eqF
  have : ((List.range xs.length).all fun i => eq3 (at3 xs i) (at3 xs i)) = true := by
    rw [List.all_eq_true]
    intro j _
    exact eq3_self _
  rw [this]
  simp
theorem c9 (xs : List (Elem k3)) (hm : xs.length ≤ maxLen) : Ctr Tryd.prog 9 [.rsl k3 xs] [] ⟨.val (.bool true), [], []⟩ := by
  have hm' : xs.length ≤ 9223372036854775807 := hm
  refine ctr_fn ok0 hg9 Tryd.func9 (by kernel_rfl) (by kernel_rfl) (by kernel_rfl) fun C => ?_
  rw [e9, eqF_self]
  rw [wrap_id (by omega) (by omega)]
  refine br_dec (fun _ => rfl) (fun h => br_dec (fun _ => rfl) (fun _ => ?_))
  have hd : decide (xs.length ≤ 1048576) = true := decide_eq_true (by omega)
  refine br_t hd (br_t hd (br_t hd (br_t hd (br_not (fun h => ?_) (fun _ => br_t hd (br_t hd (br_not (fun h => by cases h) (fun _ => rfl))))))))
  rw [strEq_self] at h
  cases h
end Go.Proofs.YtljilcingbohkaaDoor.Ev
