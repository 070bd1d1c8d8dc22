/- The law of FnDdtFind. -/
import Derived.Test.YtkjnijddbiconaaGreatDoorF2
import Derived.Test.YtkjnijddbiconaaGreatDoorEvC
namespace Go.Proofs.YtkjnijddbiconaaGreatDoor.Ev
open Go
set_option linter.unusedVariables false
set_option linter.unusedSimpArgs false
set_option maxRecDepth 100000
theorem entT_free {L : List (Elem k3)} (hd : ddtOk L = true) : ∀ e ∈ entS L, (32 : UInt8) ∉ e.1.data.toList := by
  intro e he
  unfold entS at he
  obtain ⟨x, hx, rfl⟩ := List.mem_map.1 he
  obtain ⟨j, hj, rfl⟩ := List.getElem_of_mem hx
  obtain ⟨a, b, c⟩ := ddtOk_ent hd hj
  rw [List.getD_eq_getElem?_getD, List.getElem?_eq_getElem hj] at a b c
  exact pts3_free a.1 b.1 c.1
/-- What is written of valid entries is read as it was. -/
theorem dd_back {L : List (Elem k3)} (hd : ddtOk L = true) : ddK (ddtT L) = true ∧ ddL (ddtT L) = L := by
  by_cases h0 : L = []
  · subst h0
    rw [ddtT_nil]
    have he : strEq ⟨#[]⟩ ⟨#[]⟩ = true := strEq_self _
    refine ⟨?_, ?_⟩
    · unfold ddK
      rw [he]
      rfl
    · unfold ddL
      rw [he]
  · have hcut : cutL (ddtT L) 32 = entS L := by
      have e : ddtT L = joinT (entS L) ⟨#[32]⟩ := by unfold ddtT; rw [hd]
      rw [e]
      exact cut_join (by unfold entS; simpa using h0) (entT_free hd)
    have hl : L.length = (cutL (ddtT L) 32).length := by rw [hcut]; unfold entS; rw [List.length_map]
    have hw : ∀ j, j < L.length → wz (ddtT L) j = entT (L.getD j (edflt k3)) := by
      intro j hj
      unfold wz wd at1
      rw [hcut, List.getD_eq_getElem?_getD, List.getD_eq_getElem?_getD]
      unfold entS
      rw [List.getElem?_map, List.getElem?_eq_getElem hj]
      rfl
    obtain ⟨k1, _, k3', _, k5⟩ := dd_key hl hd hw
    have hne : strEq (ddtT L) ⟨#[]⟩ = false := by
      cases hs : strEq (ddtT L) ⟨#[]⟩ with
      | false => rfl
      | true =>
        have he := strEq_iff.1 hs
        rw [he] at hcut
        have h1 : cutL ⟨#[]⟩ 32 = [(⟨#[]⟩, ())] := by decide +kernel
        rw [h1] at hcut
        have := (entS_size hd (⟨#[]⟩, ()) (by rw [← hcut]; simp)).1
        exact absurd this (by decide)
    have hK : ddK (ddtT L) = true := by
      have := ddtT_size L
      unfold ddK
      rw [hne, decide_eq_true (show ((ddtT L).size : Int) ≤ 1000 by omega), k3', k1, hd, strEq_self]
      rfl
    refine ⟨hK, ?_⟩
    unfold ddL
    rw [hne, hK]
    exact k1
theorem okB_of {b : List (Elem ku)} (h : ∀ e ∈ b, elemOk ku e) : okB b = true := by
  unfold okB
  rw [List.all_eq_true]
  intro e he
  have h1 : (decide (IntKind.u8.min ≤ (e.1 : Int)) && decide ((e.1 : Int) ≤ IntKind.u8.max)) = true := (h e he).1
  simp only [Bool.and_eq_true, decide_eq_true_eq] at h1
  have e0 : IntKind.u8.min = 0 := rfl
  have e1 : IntKind.u8.max = 255 := rfl
  have this : 0 ≤ (e.1 : Int) ∧ (e.1 : Int) ≤ 255 := by
    rw [e0, e1] at h1
    exact h1
  exact decide_eq_true this
theorem rd_sum {a b : List (Elem ks)} {c : List (Elem kl)} {x y z : Int} (h : ((rdBlk a b c x y z).2 == 0) = true) : sumN (rdBlk a b c x y z).1 = y := by
  have side : ∀ s, sideD a b c x y z s = true → sumN (rdD a b c s x) = y := fun s hs => by
    unfold sideD hasD at hs
    simp only [Bool.and_eq_true, beq_iff_eq] at hs
    exact hs.2.2
  unfold rdBlk at h ⊢
  cases h0 : (ptrOk x y z && x == 0) with
  | true =>
    rw [h0] at h
    exact absurd (show ((1 : Int) == 0) = true from h) (by decide)
  | false =>
    rw [h0] at h
    cases h1 : sideD a b c x y z 0 with
    | true => exact side 0 h1
    | false =>
      rw [h1] at h
      cases h2 : sideD a b c x y z 1 with
      | true => exact side 1 h2
      | false =>
        rw [h2] at h
        exact absurd (show ((2 : Int) == 0) = true from h) (by decide)
theorem ddt_inj {l : List (Elem k3)} (h : ddtOk l = true) {i j : Nat} (hi : i < l.length) (hj : j < l.length) (e : adD l i = adD l j) : i = j := by
  rcases Nat.lt_trichotomy i j with hh | hh | hh
  · have := ddt_mono h j i hh hj
    omega
  · exact hh
  · have := ddt_mono h i j hh hi
    omega
theorem fnd_0 {c : List (Elem kl)} {l : List (Elem k3)} {t : ByteArray} (hd : ddtOk l = true) (h : fndR z12 z12 c l t = 0) {i : Nat} (hi : i < l.length)
    (h1 : ((rdBlk z12 z12 c (at3 l i).2.1 (at3 l i).1 0).2 == 0) = true) (h2 : strEq (rdBlk z12 z12 c (at3 l i).2.1 (at3 l i).1 0).1 t = true) : False := by
  have hs : sumN t = (at3 l i).1 := by rw [← strEq_iff.1 h2]; exact rd_sum h1
  have hP : fndP z12 z12 c l t i = true := by
    unfold fndP
    rw [hs, h1, h2, beq_self_eq_true]
    rfl
  unfold fndR fd at h
  rw [hd] at h
  cases hf : (List.range l.length).find? (fndP z12 z12 c l t) with
  | none =>
    have := List.find?_eq_none.1 hf i (List.mem_range.2 hi)
    exact this hP
  | some j =>
    rw [hf] at h
    have hj : j < l.length := List.mem_range.1 (List.mem_of_find?_eq_some hf)
    have he := ddt_ent hd hj
    have : adD l j = 0 := h
    omega
theorem fnd_1 {c : List (Elem kl)} {l : List (Elem k3)} {t : ByteArray} (hd : ddtOk l = true) {i : Nat} (hi : i < l.length) (h : (at3 l i).2.1 = fndR z12 z12 c l t) :
    ((rdBlk z12 z12 c (at3 l i).2.1 (at3 l i).1 0).2 == 0) = true ∧ strEq (rdBlk z12 z12 c (at3 l i).2.1 (at3 l i).1 0).1 t = true := by
  have he := ddt_ent hd hi
  unfold fndR fd at h
  rw [hd] at h
  cases hf : (List.range l.length).find? (fndP z12 z12 c l t) with
  | none =>
    rw [hf] at h
    have : adD l i = 0 := h
    omega
  | some j =>
    rw [hf] at h
    have hj : j < l.length := List.mem_range.1 (List.mem_of_find?_eq_some hf)
    have hij : i = j := ddt_inj hd hi hj h
    subst hij
    have hP := List.find?_some hf
    unfold fndP at hP
    rw [Bool.and_eq_true, Bool.and_eq_true] at hP
    have e : (at3 l i).1 = sumN t := eq_of_beq hP.1
    rw [e]
    exact hP.2
theorem dc_1 {l : List (Elem k3)} (hd : ddtOk l = true) {i : Nat} (hi : i < l.length) : 1 ≤ dcI l (at3 l i).2.1 := by
  have he := ddt_ent hd hi
  have h0 : 0 ≤ (at3 l i).2.1 := by have : 0 ≤ adD l i := by omega
                                    exact this
  have h1 : (at3 l i).2.1 ≤ 1000000 := by have : adD l i ≤ 1000000 := by omega
                                          exact this
  have hl : lnD l (at3 l i).2.1 = i := by
    unfold lnD
    refine ln_uniq (fun j hj => ?_) (by omega) (fun _ => ?_)
    · exact decide_eq_true (show adD l j < adD l i from ddt_mono hd i j hj hi)
    · exact decide_eq_false (Int.lt_irrefl _)
  have hk : okD l (at3 l i).2.1 = true := by
    unfold okD
    rw [hl, decide_eq_true hi, beq_self_eq_true]
    rfl
  unfold dcI
  rw [hd, bk_okD hd h0 h1, hk, bs_lnD hd h0 h1, hl]
  exact he.2.2.1
theorem c10 (c : List (Elem ku)) (hc : okB c = true) : Ctr Tryz.prog 10 [.rsl [.int .u8] c] [] ⟨.val (.bool true), [], []⟩ := by
  refine ctr_fn okr hg10 Tryz.func10 (by kernel_rfl) (by kernel_rfl) (by kernel_rfl) fun C => ?_
  rw [e10]
  refine br_dec (fun _ => rfl) (fun h1 => ?_)
  have hcl : (okB c && decide (c.length ≤ 1048576)) = true := by rw [hc, decide_eq_true (show c.length ≤ 1048576 by omega)]; rfl
  have hL := drL_len (opB_ok hc)
  have hC := (lsR_ok (opB_ok hc)).2.1
  have hT := dfW_size (pk (opB c) (drP (opB c)) 6).toNat
  have hC : (drC (opB c)).length ≤ 16 := hC
  have hT : (dfT (opB c)).size ≤ 4 := hT
  generalize drC (opB c) = d at *
  generalize drL (opB c) = l at *
  generalize dfT (opB c) = t at *
  have hz : smD z12 z12 d = true := sm12 (by omega)
  have dL : decide (l.length ≤ 1048576) = true := decide_eq_true (by omega)
  have dT : decide (t.size ≤ 4611686018427387904) = true := decide_eq_true (by omega)
  have dF : (smD z12 z12 d && (decide (l.length ≤ 1048576) && decide (t.size ≤ 4611686018427387904))) = true := by rw [hz, dL, dT]; rfl
  have hS := ddtT_size l
  have loop : LoopOk Tryz.prog C (lp10 11) (st10 d l t (fndR z12 z12 d l t) 0) (ct10 (LoopOk Tryz.prog C) (fun o => o = some ⟨.val (.bool true), [], []⟩) 11) := by
    refine loopUp okf10 hg10 (α := Unit) (fun i _ => st10 d l t (fndR z12 z12 d l t) i) l.length (fun _ _ => True) (fun N i _ hi _ next => ?_) () trivial
    show evP E10 G10 _ (lp10 11) (st10 d l t (fndR z12 z12 d l t) i) (rk10 _ _ 11 _)
    have fin : br (fndR z12 z12 d l t == 0) ((some ⟨.val (.bool true), [], []⟩ : Option Res) = some ⟨.val (.bool true), [], []⟩) (br (decide (l.length ≤ 1048576)) ((some ⟨.val (.bool (ddtOk l)), [], []⟩ : Option Res) = some ⟨.val (.bool true), [], []⟩) False) := by
      refine br_intro (fun _ => rfl) (fun h2 => br_t dL ?_)
      cases hd : ddtOk l with
      | true => rfl
      | false =>
        unfold fndR at h2
        rw [hd] at h2
        exact absurd (show ((0 : Int) == 0) = false from h2) (by decide)
    rw [b10, wrap_id (n := (i : Int) + 1) (by omega) (by omega), Int.toNat_natCast]
    refine br_dec (fun h2 => br_t dL (br_intro (fun hd => ?_) (fun hd => fin))) (fun h2 => fin)
    have hi' : i < l.length := by omega
    have next := next hi' () trivial
    have hb : 0 ≤ (i : Int) ∧ (i : Int) < (l.length : Int) := ⟨by omega, h2⟩
    have tail : br (decide (0 ≤ (i : Int) ∧ (i : Int) < (l.length : Int))) (br ((l.getD i (edflt k3)).2.1 == fndR z12 z12 d l t) (br ((rdBlk z12 z12 d (l.getD i (edflt k3)).2.1 (l.getD i (edflt k3)).1 0).2 != 0) ((some ⟨.val (.bool false), [], []⟩ : Option Res) = some ⟨.val (.bool true), [], []⟩) (br (!strEq (rdBlk z12 z12 d (l.getD i (edflt k3)).2.1 (l.getD i (edflt k3)).1 0).1 t) ((some ⟨.val (.bool false), [], []⟩ : Option Res) = some ⟨.val (.bool true), [], []⟩)
        (br (decide (l.length ≤ 1048576)) (br (decide (dcI l (fndR z12 z12 d l t) < 1)) ((some ⟨.val (.bool false), [], []⟩ : Option Res) = some ⟨.val (.bool true), [], []⟩) (N (st10 d l t (fndR z12 z12 d l t) ((i : Int) + 1)))) False))) (N (st10 d l t (fndR z12 z12 d l t) ((i : Int) + 1)))) False := by
      refine br_yes hb (br_intro (fun h5 => ?_) (fun _ => next))
      have h5 : (at3 l i).2.1 = fndR z12 z12 d l t := eq_of_beq h5
      obtain ⟨q1, q2⟩ := fnd_1 hd hi' h5
      have q3 := dc_1 hd hi'
      rw [h5] at q3
      refine br_f ?_ (br_f ?_ (br_t dL (br_no (by omega) next)))
      · have q1 : ((rdBlk z12 z12 d (l.getD i (edflt k3)).2.1 (l.getD i (edflt k3)).1 0).2 == 0) = true := q1
        rw [bne, q1]
        rfl
      · have q2 : strEq (rdBlk z12 z12 d (l.getD i (edflt k3)).2.1 (l.getD i (edflt k3)).1 0).1 t = true := q2
        rw [q2]
        rfl
    refine br_yes hb (br_yes hb (br_t hz (br_intro (fun h3 => br_intro (fun h4 => br_intro (fun h5 => ?_) (fun _ => tail)) (fun _ => tail)) (fun _ => tail))))
    exact (fnd_0 hd (eq_of_beq h3) hi' h4 h5).elim
  refine br_t hcl (br_t dF (br_t dF (br_f (by simp) (br_t dL (br_yes (by omega) (br_t dL (br_intro (fun hd => ?_) (fun hd => loop))))))))
  obtain ⟨k1, k2⟩ := dd_back hd
  rw [k1, k2]
  exact br_f rfl (br_t dL (br_f (by rw [eqP_self]; rfl) loop))
end Go.Proofs.YtkjnijddbiconaaGreatDoor.Ev
