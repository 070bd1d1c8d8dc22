/- The law of PtrText. -/
import Derived.Test.YtljilcingbohkaaDoorD2
namespace Go.Proofs.YtljilcingbohkaaDoor.Ev
open Go
set_option linter.unusedVariables false
set_option linter.unusedSimpArgs false
set_option maxRecDepth 100000
abbrev ks : List CK := [.str]
abbrev k3 : List CK := [.int .i64, .int .i64, .int .i64]
abbrev ki : List CK := [.int .i64]
def g47 : G1
  | [.val (.int .i64 a), .val (.int .i64 b), .val (.int .i64 c)], [], k => k ⟨.val (.bool (decide (b ≤ a) && decide (a ≤ c))), [], []⟩
  | _, _, _ => False
def ptrOk (a b c : Int) : Bool := (a == 0 && b == 0 && c == 0) || (decide (a > 0) && decide (a < 120) && decide (b ≥ 0) && decide (b < 65521) && decide (c ≥ 0) && decide (c ≤ 1000000))
def g50 : G1
  | [.agg [.val (.int .i64 a), .val (.int .i64 b), .val (.int .i64 c)]], [], k => k ⟨.val (.bool (ptrOk a b c)), [], []⟩
  | _, _, _ => False
def g18 : G1
  | [.agg [.val (.int .i64 a), .val (.int .i64 b), .val (.int .i64 c)]], [], k => k ⟨.agg [.val (.int .i64 a), .val (.int .i64 b), .val (.int .i64 c)], [], []⟩
  | _, _, _ => False
theorem brb2 {p q : Bool} {t : Prop} (h : br (p && q) t False) : p = true ∧ q = true ∧ t := by
  obtain ⟨h1, h2⟩ := br_and h
  rw [Bool.and_eq_true] at h1
  exact ⟨h1.1, h1.2, h2⟩
noncomputable def E47 : Env := E0.of Tryd.f47
noncomputable def G47 : Gk := gk []
noncomputable def lp47 (n : Nat) : Code := (loopOf n (codeOf Tryd.f47)).getD .skip
noncomputable def ct47 (L : Lp) (R : Option Res → Prop) (n : Nat) : Kt := contOf E47 G47 L n (codeOf Tryd.f47) (endK E47 Tryd.f47.results.toList R)
noncomputable def rk47 (L : Lp) (R : Option Res → Prop) (n : Nat) (N : St → Prop) : Kt := rk (jof E47 (lp47 n)) N (ct47 L R n)
noncomputable def LOOP47 (L : Lp) (R : Option Res → Prop) (n : Nat) (st : St) : Prop := L (lp47 n) st (ct47 L R n)
theorem hg47 : HG Tryd.prog G47 := hg_nil
theorem okf47 : Ok Tryd.prog E47 := ok0.of Tryd.f47
theorem e47 (L : Lp) (R : Option Res → Prop) (a b c : Int) : (bodyP E0 G47 L Tryd.f47 [.val (.int .i64 a), .val (.int .i64 b), .val (.int .i64 c)] [] R) = (
    br (decide (b ≤ a)) (R (some { av := vB (decide (a ≤ c)), obs := [], outs := [] })) (R (some { av := vB false, obs := [], outs := [] }))) := by kernel_rfl
theorem h47 : G1Ok Tryd.prog 47 g47 := by
  intro args obs k h
  unfold g47 at h
  split at h
  · rename_i k a b c
    refine ⟨_, ctr_fn ok0 hg47 Tryd.func47 (by kernel_rfl) (by kernel_rfl) (by kernel_rfl) fun C => ?_, h⟩
    rw [e47]
    refine br_intro (fun h => ?_) (fun h => ?_) <;> simp [h]
  · exact h.elim
noncomputable def E50 : Env := E0.of Tryd.f50
noncomputable def G50 : Gk := gk [(47, g47)]
noncomputable def lp50 (n : Nat) : Code := (loopOf n (codeOf Tryd.f50)).getD .skip
noncomputable def ct50 (L : Lp) (R : Option Res → Prop) (n : Nat) : Kt := contOf E50 G50 L n (codeOf Tryd.f50) (endK E50 Tryd.f50.results.toList R)
noncomputable def rk50 (L : Lp) (R : Option Res → Prop) (n : Nat) (N : St → Prop) : Kt := rk (jof E50 (lp50 n)) N (ct50 L R n)
noncomputable def LOOP50 (L : Lp) (R : Option Res → Prop) (n : Nat) (st : St) : Prop := L (lp50 n) st (ct50 L R n)
theorem hg50 : HG Tryd.prog G50 := (hg_cons h47 hg_nil)
theorem okf50 : Ok Tryd.prog E50 := ok0.of Tryd.f50
theorem e50 (L : Lp) (R : Option Res → Prop) (a b c : Int) : (bodyP E0 G50 L Tryd.f50 [.agg [.val (.int .i64 a), .val (.int .i64 b), .val (.int .i64 c)]] [] R) = (
    br (elemEq k3 (a, b, c, ()) (0, 0, 0, ())) (R (some { av := vB true, obs := [], outs := [] })) (br (decide (1 ≤ a) && decide (a ≤ 119)) (br (decide (0 ≤ b) && decide (b ≤ 65520)) (R (some { av := vB (decide (0 ≤ c) && decide (c ≤ 1000000)), obs := [], outs := [] })) (R (some { av := vB false, obs := [], outs := [] }))) (R (some { av := vB false, obs := [], outs := [] })))) := by kernel_rfl
theorem h50 : G1Ok Tryd.prog 50 g50 := by
  intro args obs k h
  unfold g50 at h
  split at h
  · rename_i k a b c
    refine ⟨_, ctr_fn ok0 hg50 Tryd.func50 (by kernel_rfl) (by kernel_rfl) (by kernel_rfl) fun C => ?_, h⟩
    rw [e50]
    refine br_intro (fun h => ?_) (fun h => br_intro (fun h2 => br_intro (fun h3 => ?_) (fun h3 => ?_)) (fun h2 => ?_))
    all_goals simp [ptrOk, elemEq, ckEq] at *
    all_goals grind
  · exact h.elim
noncomputable def E49 : Env := E0.of Tryd.f49
noncomputable def G49 : Gk := gk []
noncomputable def lp49 (n : Nat) : Code := (loopOf n (codeOf Tryd.f49)).getD .skip
noncomputable def ct49 (L : Lp) (R : Option Res → Prop) (n : Nat) : Kt := contOf E49 G49 L n (codeOf Tryd.f49) (endK E49 Tryd.f49.results.toList R)
noncomputable def rk49 (L : Lp) (R : Option Res → Prop) (n : Nat) (N : St → Prop) : Kt := rk (jof E49 (lp49 n)) N (ct49 L R n)
noncomputable def LOOP49 (L : Lp) (R : Option Res → Prop) (n : Nat) (st : St) : Prop := L (lp49 n) st (ct49 L R n)
theorem hg49 : HG Tryd.prog G49 := hg_nil
theorem okf49 : Ok Tryd.prog E49 := ok0.of Tryd.f49
theorem e49 (L : Lp) (R : Option Res → Prop) (a b c : Int) : (bodyP E0 G49 L Tryd.f49 [.agg [.val (.int .i64 a), .val (.int .i64 b), .val (.int .i64 c)]] [] R) = (
    br (a == 0) (R (some { av := vB (elemEq k3 (a, b, c, ()) (0, 0, 0, ())), obs := [], outs := [] })) (br (decide (a > 0)) (br (decide (a < 120)) (br (decide (b ≥ 0)) (br (decide (b < 65521)) (br (decide (c ≥ 0)) (R (some { av := vB (decide (c ≤ 1000000)), obs := [], outs := [] })) (R (some { av := vB false, obs := [], outs := [] }))) (R (some { av := vB false, obs := [], outs := [] }))) (R (some { av := vB false, obs := [], outs := [] }))) (R (some { av := vB false, obs := [], outs := [] }))) (R (some { av := vB false, obs := [], outs := [] })))) := by kernel_rfl
theorem h49 : G1Ok Tryd.prog 49 g50 := by
  intro args obs k h
  unfold g50 at h
  split at h
  · rename_i k a b c
    refine ⟨_, ctr_fn ok0 hg49 Tryd.func49 (by kernel_rfl) (by kernel_rfl) (by kernel_rfl) fun C => ?_, h⟩
    rw [e49]
    repeat' (first | refine br_intro (fun h => ?_) (fun h => ?_))
    all_goals simp [ptrOk, elemEq, ckEq] at *
    all_goals grind
  · exact h.elim
noncomputable def E18 : Env := E0.of Tryd.f18
noncomputable def G18 : Gk := gk []
noncomputable def lp18 (n : Nat) : Code := (loopOf n (codeOf Tryd.f18)).getD .skip
noncomputable def ct18 (L : Lp) (R : Option Res → Prop) (n : Nat) : Kt := contOf E18 G18 L n (codeOf Tryd.f18) (endK E18 Tryd.f18.results.toList R)
noncomputable def rk18 (L : Lp) (R : Option Res → Prop) (n : Nat) (N : St → Prop) : Kt := rk (jof E18 (lp18 n)) N (ct18 L R n)
noncomputable def LOOP18 (L : Lp) (R : Option Res → Prop) (n : Nat) (st : St) : Prop := L (lp18 n) st (ct18 L R n)
theorem hg18 : HG Tryd.prog G18 := hg_nil
theorem okf18 : Ok Tryd.prog E18 := ok0.of Tryd.f18
theorem e18 (L : Lp) (R : Option Res → Prop) (a b c : Int) : (bodyP E0 G18 L Tryd.f18 [.agg [.val (.int .i64 a), .val (.int .i64 b), .val (.int .i64 c)]] [] R) = (
    R (some { av := AV.agg [vI a, vI b, vI c], obs := [], outs := [] })) := by kernel_rfl
theorem h18 : G1Ok Tryd.prog 18 g18 := by
  intro args obs k h
  unfold g18 at h
  split at h
  · rename_i k a b c
    refine ⟨_, ctr_fn ok0 hg18 Tryd.func18 (by kernel_rfl) (by kernel_rfl) (by kernel_rfl) fun C => ?_, h⟩
    rw [e18]
  · exact h.elim
def joinT (ys : List (Elem ks)) (sep : ByteArray) : ByteArray := ⟨(sep.data.toList.intercalate (ys.map fun e => e.1.data.toList)).toArray⟩
def g52 : G1
  | [.rsl [.str] ys, .val (.string sep)], [], k => br (decide (ys.length ≤ 1048576) && decide ((joinT ys sep).size ≤ 1099511627776)) (k ⟨.val (.string (joinT ys sep)), [], []⟩) False
  | _, _, _ => False
theorem flat_ks : ∀ (ys : List (Elem ks)), flat ks ys = ys.map fun e => .string e.1
  | [] => rfl
  | e :: ys => by
    show vals ks e ++ flat ks ys = _
    rw [flat_ks ys]
    rfl
theorem quiet_below {w w' : World} (h : RowKit.Below w.heap.size w w') : Quiet w w' := by
  refine ⟨⟨h.os, h.tape, h.output, h.size⟩, fun b x hb => ?_⟩
  have hlt : b < w.heap.size := (Array.getElem?_eq_some_iff.1 hb).1
  rw [h.block b hlt, hb]
theorem add_none (b o j : Nat) : (⟨b, o, none⟩ : Addr).add j = ⟨b, o + j, none⟩ := by
  cases j with
  | zero => simp [Addr.add]
  | succ j => simp [Addr.add]
theorem h52 : G1Ok Tryd.prog 52 g52 := by
  intro args obs k h
  unfold g52 at h
  split at h
  · rename_i k ys sep
    obtain ⟨hp, h⟩ := br_and h
    simp only [Bool.and_eq_true, decide_eq_true_eq] at hp
    obtain ⟨hl, hsz⟩ := hp
    refine ⟨_, ctr_lib (args := [.rsl ks ys, .val (.string sep)]) Tryd.func52 (by kernel_rfl) (by kernel_rfl) (fun S π w vs hR hS ht => ?_), h⟩
    obtain ⟨v, vs', rfl, hv, hR⟩ := hR.uncons
    obtain rfl : vs' = [.string sep] := RL_vals_eq (vs := [.string sep]) hR
    cases hv with
    | rsl _ _ A c hc hcell =>
      rw [flat_ks] at hcell
      cases ys with
      | nil =>
        refine (Tryd.strings_Join_none A c sep w).mono fun e w' he => ?_
        obtain ⟨rfl, rfl⟩ := he
        exact ⟨_, rfl, .val _, .refl _⟩
      | cons y ys =>
        obtain ⟨a, rfl, h0⟩ := hcell 0 (.string y.1) rfl
        obtain ⟨bk, o, sp⟩ := a
        have hw0 := cellS_world hS h0
        have hsp : sp = none := by
          unfold World.cell? at hw0
          split at hw0
          · split at hw0
            · cases hw0
            · rename_i hns
              simpa [Addr.add] using hns
          · cases hw0
        subst hsp
        have hbk : bk < w.heap.size := by
          unfold World.cell? at hw0
          split at hw0
          · rename_i hb
            exact (Array.getElem?_eq_some_iff.1 hb).1
          · cases hw0
        have hlen : (Lib.join (((y :: ys).map fun e => e.1).map (·.data.toList)) sep.data.toList).length ≤ 140737488355328 := by
          have : (joinT (y :: ys) sep).size = (Lib.join (((y :: ys).map fun e => e.1).map (·.data.toList)) sep.data.toList).length := by
            show (sep.data.toList.intercalate _).toArray.size = _
            rw [List.size_toArray, List.map_map]
            rfl
          omega
        have key := Tryd.strings_Join bk o c ((y :: ys).map fun e => e.1) sep w (fun j x hx => by
          rw [List.getElem?_map] at hx
          obtain ⟨z, hz, rfl⟩ := Option.map_eq_some_iff.1 hx
          obtain ⟨a', ha', hc'⟩ := hcell j (.string z.1) (by rw [List.getElem?_map, hz]; rfl)
          cases ha'
          exact cellS_world hS (by rw [add_none] at hc'; exact hc')) hbk (by simp at hl ⊢; omega) (by simpa using hc) hlen
        rw [List.length_map] at key
        refine key.mono fun e w' he => ?_
        obtain ⟨rfl, hb⟩ := he
        refine ⟨_, rfl, ?_, quiet_below hb⟩
        have : joinT (y :: ys) sep = ⟨(Lib.join (((y :: ys).map fun e => e.1).map (·.data.toList)) sep.data.toList).toArray⟩ := by
          unfold joinT Lib.join
          rw [List.map_map]
          rfl
        rw [this]
        exact .val _
  · exact h.elim
def decS (xs : List (Elem ki)) : List (Elem ks) := xs.map fun e => (dec e.1, ())
def allN (xs : List (Elem ki)) : Bool := xs.all fun e => inN e.1
def g51 : G1
  | [.rsl [.int .i64] xs], [], k => br (allN xs && (decide (xs.length ≤ 1048576) && decide ((joinT (decS xs) ⟨#[46]⟩).size ≤ 1099511627776))) (k ⟨.val (.string (joinT (decS xs) ⟨#[46]⟩)), [], []⟩) False
  | _, _, _ => False
noncomputable def E51 : Env := E0.of Tryd.f51
noncomputable def G51 : Gk := gk [(45, g45), (52, g52)]
noncomputable def lp51 (n : Nat) : Code := (loopOf n (codeOf Tryd.f51)).getD .skip
noncomputable def ct51 (L : Lp) (R : Option Res → Prop) (n : Nat) : Kt := contOf E51 G51 L n (codeOf Tryd.f51) (endK E51 Tryd.f51.results.toList R)
noncomputable def rk51 (L : Lp) (R : Option Res → Prop) (n : Nat) (N : St → Prop) : Kt := rk (jof E51 (lp51 n)) N (ct51 L R n)
noncomputable def LOOP51 (L : Lp) (R : Option Res → Prop) (n : Nat) (st : St) : Prop := L (lp51 n) st (ct51 L R n)
theorem hg51 : HG Tryd.prog G51 := (hg_cons h45 (hg_cons h52 hg_nil))
theorem okf51 : Ok Tryd.prog E51 := ok0.of Tryd.f51
theorem e51 (L : Lp) (R : Option Res → Prop) (xs : List (Elem ki)) : (bodyP E0 G51 L Tryd.f51 [.rsl ki xs] [] R) = (
    LOOP51 L R 3 { tm := [AV.rsl ki xs, vU, vS { data := #[] }, AV.ows 0, vU, vJ, AV.rsl ki xs, vI (↑xs.length : Int), vI 0, vJ, vJ, vJ, vJ, vJ, vJ, vJ, vJ, vJ, vU, vU], ob := [(0, AO.row ks [])], nx := 1000000, ps := [] }) := by kernel_rfl
def st51 (xs : List (Elem ki)) (i : Int) (ys : List (Elem ks)) : St :=  ⟨[AV.rsl ki xs, vU, vS { data := #[] }, AV.ows 0, vU, vJ, AV.rsl ki xs, vI (↑xs.length : Int), .val (.int .i64 i), vJ, vJ, vJ, vJ, vJ, vJ, vJ, vJ, vJ, vU, vU], [(0, .row ks ys)], 1000000, []⟩
theorem b51 (L : Lp) (R : Option Res → Prop) (N : St → Prop) (xs : List (Elem ki)) (i : Int) (ys : List (Elem ks)) : (evP E51 G51 L (lp51 3) (st51 xs i ys) (rk51 L R 3 N)) = (
    br (decide (i < (↑xs.length : Int))) (br (decide (0 ≤ i ∧ i < (↑xs.length : Int))) (br (inN (xs.getD i.toNat (edflt ki)).fst) (br (decide ((ys.length + [(dec (xs.getD i.toNat (edflt ki)).fst, ())].length) * 16 ≤ 140737488355328)) (N { tm := [AV.rsl ki xs, vU, vS { data := #[] }, AV.ows 0, vU, vJ, AV.rsl ki xs, vI (↑xs.length : Int), vI (IntKind.i64.wrap (i + 1)), vJ, vJ, vJ, vJ, vJ, vJ, vJ, vJ, vJ, vU, vU], ob := [(0, AO.row ks (ys ++ [(dec (xs.getD i.toNat (edflt ki)).fst, ())]))], nx := 1000000, ps := [] }) False) False) False) (br (decide (ys.length ≤ 1048576) && decide ((joinT ys { data := #[46] }).size ≤ 1099511627776)) (R (some { av := vS (joinT ys { data := #[46] }), obs := [], outs := [] })) False)) := by kernel_rfl
theorem h51 : G1Ok Tryd.prog 51 g51 := by
  intro args obs k h
  unfold g51 at h
  split at h
  · rename_i k xs
    obtain ⟨hn, hp, h⟩ := brb2 h
    have hp' := hp
    simp only [Bool.and_eq_true, decide_eq_true_eq] at hp'
    obtain ⟨hl, hsz⟩ := hp'
    refine ⟨_, ctr_fn ok0 hg51 Tryd.func51 (by kernel_rfl) (by kernel_rfl) (by kernel_rfl) fun C => ?_, h⟩
    rw [e51]
    refine loopUp okf51 hg51 (fun i ys => st51 xs i ys) xs.length (fun i ys => ys = (decS xs).take i) (fun N i ys hi hys next => ?_) [] rfl
    show evP E51 G51 _ (lp51 3) (st51 xs i ys) (rk51 _ _ 3 _)
    rw [b51, wrap_id (n := (i : Int) + 1) (by omega) (by omega), Int.toNat_natCast]
    have hlen : (decS xs).length = xs.length := by simp [decS]
    have hyl : ys.length = i := by rw [hys, List.length_take]; omega
    refine br_dec (fun h2 => br_yes ⟨by omega, h2⟩ (br_t ?_ (br_yes ?_ ?_))) (fun h2 => ?_)
    · exact all_at hn (edflt ki) (by omega)
    · show (ys.length + 1) * 16 ≤ _
      omega
    · refine next (by omega) _ ?_
      have hi' : i < xs.length := by omega
      have hx : (decS xs)[i]? = some (dec (xs.getD i (edflt ki)).1, ()) := by
        unfold decS
        rw [List.getElem?_map, List.getD_eq_getElem?_getD, List.getElem?_eq_getElem hi']
        rfl
      rw [hys, List.take_add_one, hx]
      rfl
    · have : ys = decS xs := by rw [hys, List.take_of_length_le (by omega)]
      rw [this]
      refine br_t ?_ rfl
      rw [hlen]
      exact hp
  · exact h.elim
def ptrT (a b c : Int) : ByteArray := match ptrOk a b c with
  | false => ByteArray.empty
  | true => match a == 0 with
    | true => ⟨#[45]⟩
    | false => dec a ++ ⟨#[46]⟩ ++ dec b ++ ⟨#[46]⟩ ++ dec c
def g17 : G1
  | [.agg [.val (.int .i64 a), .val (.int .i64 b), .val (.int .i64 c)]], [], k => k ⟨.val (.string (ptrT a b c)), [], []⟩
  | _, _, _ => False
theorem ptr_range {a b c : Int} (h : ptrOk a b c = true) : (0 ≤ a ∧ a ≤ 120) ∧ (0 ≤ b ∧ b ≤ 65520) ∧ (0 ≤ c ∧ c ≤ 1000000) := by
  simp only [ptrOk, Bool.or_eq_true, Bool.and_eq_true, decide_eq_true_eq, beq_iff_eq] at h
  omega
theorem join3 (a b c p : ByteArray) : joinT [(a, ()), (b, ()), (c, ())] p = a ++ p ++ b ++ p ++ c := by
  unfold joinT
  apply ByteArray.ext
  rw [ByteArray.data_append, ByteArray.data_append, ByteArray.data_append, ByteArray.data_append]
  apply Array.ext'
  simp [List.intercalate, List.intersperse]
noncomputable def E17 : Env := E0.of Tryd.f17
noncomputable def G17 : Gk := gk [(49, g50), (43, g43p)]
noncomputable def lp17 (n : Nat) : Code := (loopOf n (codeOf Tryd.f17)).getD .skip
noncomputable def ct17 (L : Lp) (R : Option Res → Prop) (n : Nat) : Kt := contOf E17 G17 L n (codeOf Tryd.f17) (endK E17 Tryd.f17.results.toList R)
noncomputable def rk17 (L : Lp) (R : Option Res → Prop) (n : Nat) (N : St → Prop) : Kt := rk (jof E17 (lp17 n)) N (ct17 L R n)
noncomputable def LOOP17 (L : Lp) (R : Option Res → Prop) (n : Nat) (st : St) : Prop := L (lp17 n) st (ct17 L R n)
theorem hg17 : HG Tryd.prog G17 := (hg_cons h49 (hg_cons h43p hg_nil))
theorem okf17 : Ok Tryd.prog E17 := ok0.of Tryd.f17
theorem e17 (L : Lp) (R : Option Res → Prop) (a b c : Int) : (bodyP E0 G17 L Tryd.f17 [.agg [.val (.int .i64 a), .val (.int .i64 b), .val (.int .i64 c)]] [] R) = (
    br (!ptrOk a b c) (R (some { av := vS { data := #[] }, obs := [], outs := [] })) (br (a == 0) (R (some { av := vS { data := #[45] }, obs := [], outs := [] })) (br (decide (0 ≤ a ∧ a ≤ 9223372036854775807)) (br (decide ((dec a).size + 1 ≤ 9223372036854775807)) (br (decide (0 ≤ b ∧ b ≤ 9223372036854775807)) (br (decide ((dec a ++ { data := #[46] }).size + (dec b).size ≤ 9223372036854775807)) (br (decide ((dec a ++ { data := #[46] } ++ dec b).size + 1 ≤ 9223372036854775807)) (br (decide (0 ≤ c ∧ c ≤ 9223372036854775807)) (br (decide ((dec a ++ { data := #[46] } ++ dec b ++ { data := #[46] }).size + (dec c).size ≤ 9223372036854775807)) (R (some { av := vS (dec a ++ { data := #[46] } ++ dec b ++ { data := #[46] } ++ dec c), obs := [], outs := [] })) False) False) False) False) False) False) False))) := by kernel_rfl
theorem h17 : G1Ok Tryd.prog 17 g17 := by
  intro args obs k h
  unfold g17 at h
  split at h
  · rename_i k a b c
    refine ⟨_, ctr_fn ok0 hg17 Tryd.func17 (by kernel_rfl) (by kernel_rfl) (by kernel_rfl) fun C => ?_, h⟩
    rw [e17]
    refine br_not (fun h1 => ?_) (fun h1 => br_intro (fun h2 => ?_) (fun h2 => ?_))
    · show _ = _
      unfold ptrT
      rw [h1]
      rfl
    · show _ = _
      unfold ptrT
      rw [h1, h2]
    obtain ⟨r1, r2, r3⟩ := ptr_range h1
    have s1 := dec_size (n := a) (by omega) (by omega)
    have s2 := dec_size (n := b) (by omega) (by omega)
    have s3 := dec_size (n := c) (by omega) (by omega)
    refine br_yes (by omega) (br_yes (by omega) (br_yes (by omega) (br_yes ?_ (br_yes ?_ (br_yes (by omega) (br_yes ?_ ?_))))))
    · rw [ByteArray.size_append]
      show (dec a).size + 1 + (dec b).size ≤ _
      omega
    · rw [ByteArray.size_append, ByteArray.size_append]
      show (dec a).size + 1 + (dec b).size + 1 ≤ _
      omega
    · rw [ByteArray.size_append, ByteArray.size_append, ByteArray.size_append]
      show (dec a).size + 1 + (dec b).size + 1 + (dec c).size ≤ _
      omega
    · show _ = _
      unfold ptrT
      rw [h1, h2]
  · exact h.elim
noncomputable def E19 : Env := E0.of Tryd.f19
noncomputable def G19 : Gk := gk [(50, g50), (51, g51)]
noncomputable def lp19 (n : Nat) : Code := (loopOf n (codeOf Tryd.f19)).getD .skip
noncomputable def ct19 (L : Lp) (R : Option Res → Prop) (n : Nat) : Kt := contOf E19 G19 L n (codeOf Tryd.f19) (endK E19 Tryd.f19.results.toList R)
noncomputable def rk19 (L : Lp) (R : Option Res → Prop) (n : Nat) (N : St → Prop) : Kt := rk (jof E19 (lp19 n)) N (ct19 L R n)
noncomputable def LOOP19 (L : Lp) (R : Option Res → Prop) (n : Nat) (st : St) : Prop := L (lp19 n) st (ct19 L R n)
theorem hg19 : HG Tryd.prog G19 := (hg_cons h50 (hg_cons h51 hg_nil))
theorem okf19 : Ok Tryd.prog E19 := ok0.of Tryd.f19
theorem e19 (L : Lp) (R : Option Res → Prop) (a b c : Int) : (bodyP E0 G19 L Tryd.f19 [.agg [.val (.int .i64 a), .val (.int .i64 b), .val (.int .i64 c)]] [] R) = (
    br (!ptrOk a b c) (R (some { av := vS { data := #[] }, obs := [], outs := [] })) (br (a == 0) (R (some { av := vS { data := #[45] }, obs := [], outs := [] })) (br (allN [(a, ()), (b, ()), (c, ())] && (decide ([(a, ()), (b, ()), (c, ())].length ≤ 1048576) && decide ((joinT (decS [(a, ()), (b, ()), (c, ())]) { data := #[46] }).size ≤ 1099511627776))) (R (some { av := vS (joinT (decS [(a, ()), (b, ()), (c, ())]) { data := #[46] }), obs := [], outs := [] })) False))) := by kernel_rfl
theorem h19 : G1Ok Tryd.prog 19 g17 := by
  intro args obs k h
  unfold g17 at h
  split at h
  · rename_i k a b c
    refine ⟨_, ctr_fn ok0 hg19 Tryd.func19 (by kernel_rfl) (by kernel_rfl) (by kernel_rfl) fun C => ?_, h⟩
    rw [e19]
    refine br_not (fun h1 => ?_) (fun h1 => br_intro (fun h2 => ?_) (fun h2 => br_t ?_ ?_))
    · show _ = _
      unfold ptrT
      rw [h1]
      rfl
    · show _ = _
      unfold ptrT
      rw [h1, h2]
    · obtain ⟨r1, r2, r3⟩ := ptr_range h1
      have s1 := dec_size (n := a) (by omega) (by omega)
      have s2 := dec_size (n := b) (by omega) (by omega)
      have s3 := dec_size (n := c) (by omega) (by omega)
      have e1 : allN [(a, ()), (b, ()), (c, ())] = true := by
        show (inN a && (inN b && (inN c && true))) = true
        rw [inN_of (n := a) (by omega) (by omega), inN_of (n := b) (by omega) (by omega), inN_of (n := c) (by omega) (by omega)]
        rfl
      have e2 : (joinT (decS [(a, ()), (b, ()), (c, ())]) ⟨#[46]⟩).size ≤ 1099511627776 := by
        show (joinT [(dec a, ()), (dec b, ()), (dec c, ())] ⟨#[46]⟩).size ≤ _
        rw [join3, ByteArray.size_append, ByteArray.size_append, ByteArray.size_append, ByteArray.size_append]
        show (dec a).size + 1 + (dec b).size + 1 + (dec c).size ≤ _
        omega
      rw [e1, decide_eq_true e2]
      rfl
    · show _ = _
      have : joinT (decS [(a, ()), (b, ()), (c, ())]) ⟨#[46]⟩ = ptrT a b c := by
        unfold ptrT
        rw [h1, h2]
        exact join3 _ _ _ _
      rw [this]
  · exact h.elim
noncomputable def E5 : Env := E0.of Tryd.f5
noncomputable def G5 : Gk := gk [(17, g17), (18, g18), (19, g17)]
noncomputable def lp5 (n : Nat) : Code := (loopOf n (codeOf Tryd.f5)).getD .skip
noncomputable def ct5 (L : Lp) (R : Option Res → Prop) (n : Nat) : Kt := contOf E5 G5 L n (codeOf Tryd.f5) (endK E5 Tryd.f5.results.toList R)
noncomputable def rk5 (L : Lp) (R : Option Res → Prop) (n : Nat) (N : St → Prop) : Kt := rk (jof E5 (lp5 n)) N (ct5 L R n)
noncomputable def LOOP5 (L : Lp) (R : Option Res → Prop) (n : Nat) (st : St) : Prop := L (lp5 n) st (ct5 L R n)
theorem hg5 : HG Tryd.prog G5 := (hg_cons h17 (hg_cons h18 (hg_cons h19 hg_nil)))
theorem okf5 : Ok Tryd.prog E5 := ok0.of Tryd.f5
theorem e5 (L : Lp) (R : Option Res → Prop) (a b c : Int) : (bodyP E0 G5 L Tryd.f5 [.agg [.val (.int .i64 a), .val (.int .i64 b), .val (.int .i64 c)]] [] R) = (
    br (!strEq (ptrT a b c) (ptrT a b c)) (R (some { av := vB false, obs := [], outs := [] })) (R (some { av := vB true, obs := [], outs := [] }))) := by kernel_rfl
theorem c5 (a b c : Int) : Ctr Tryd.prog 5 [.agg [.val (.int .i64 a), .val (.int .i64 b), .val (.int .i64 c)]] [] ⟨.val (.bool true), [], []⟩ := by
  refine ctr_fn ok0 hg5 Tryd.func5 (by kernel_rfl) (by kernel_rfl) (by kernel_rfl) fun C => ?_
  rw [e5]
  refine br_not (fun h => ?_) (fun _ => rfl)
  rw [strEq_self] at h
  cases h
end Go.Proofs.YtljilcingbohkaaDoor.Ev
