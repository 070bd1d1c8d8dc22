/- The law of CoreRootRead: the walks. -/
import Derived.Test.YtkjnijddbiconaaGreatDoorRR
namespace Go.Proofs.YtkjnijddbiconaaGreatDoor.Ev
open Go
set_option linter.unusedVariables false
set_option linter.unusedSimpArgs false
set_option maxRecDepth 100000
set_option maxHeartbeats 1000000
def sS (t : ByteArray) : Nat → List (Elem kc)
  | 0 => []
  | j + 1 => lnSS (sS t j) (wd t 10 (j + 1))
def sP (t : ByteArray) : Nat → List (Elem k3)
  | 0 => []
  | j + 1 => lnPP (sP t j) (wd t 10 (j + 1))
def iS (t : ByteArray) : Nat → List (Elem kc)
  | 0 => []
  | j + 1 => liS (iS t j) (wd t 10 (j + 1))
def iP (t : ByteArray) : Nat → List (Elem k3)
  | 0 => []
  | j + 1 => liP (iP t j) (wd t 10 (j + 1))
def lnN (t : ByteArray) : Nat := (cutL t 10).length - 1
def rrQ (t : ByteArray) (s : List (Elem kc)) (p : List (Elem k3)) : Bool := strEq (rootT s p) t && (bookOk (bkS s) && decide ((p.length : Int) ≤ 8))
def rrK (t : ByteArray) : Bool := decide ((t.size : Int) ≤ 420) && (strEq (wd t 10 0) ⟨#[114, 111, 111, 116]⟩ && ((allB (lnN t) fun q => lnK (wd t 10 (q + 1))) && rrQ t (sS t (lnN t)) (sP t (lnN t))))
def riK (t : ByteArray) : Bool := decide ((t.size : Int) ≤ 420) && ((allB (lnN t) fun q => liK (wd t 10 (q + 1))) && rrQ t (iS t (lnN t)) (iP t (lnN t)))
def rrS (t : ByteArray) : List (Elem kc) := match rrK t with
  | true => sS t (lnN t)
  | false => []
def rrP (t : ByteArray) : List (Elem k3) := match rrK t with
  | true => sP t (lnN t)
  | false => []
def riS (t : ByteArray) : List (Elem kc) := match riK t with
  | true => iS t (lnN t)
  | false => []
def riP (t : ByteArray) : List (Elem k3) := match riK t with
  | true => iP t (lnN t)
  | false => []
def g35 : G1
  | [.val (.string t)], [], k => br (decide (t.size ≤ 1048576)) (k ⟨.tup [.agg [.val (.int .i64 0), .ows 0, .ows 1, .ows 2, .val (.bool false), .ows 3, .val (.int .i64 0)], .val (.bool (rrK t))], [.row kc (rrS t), .row k3 [], .row k3 (rrP t), .row ki []], []⟩) False
  | _, _, _ => False
def g36i : G1
  | [.val (.string t)], [], k => br (decide (t.size ≤ 1048576)) (k ⟨.tup [.agg [.val (.int .i64 0), .ows 0, .ows 1, .ows 2, .val (.bool false), .ows 3, .val (.int .i64 0)], .val (.bool (riK t))], [.row kc (riS t), .row k3 [], .row k3 (riP t), .row ki []], []⟩) False
  | _, _, _ => False
theorem kcE_1 (l : ByteArray) (k : Int) : (kcE l k).1.size ≤ l.size := wd_size l 32 0
theorem kcE_3 (l : ByteArray) (k : Int) : (kcE l k).2.2.1.size ≤ l.size := by
  show (frO (wd l 32 2)).size ≤ _
  unfold frO
  split
  · exact Nat.zero_le _
  · exact wd_size l 32 2
/-- Sets that were read out of lines of a text: not many, and with short names. -/
def smR (t : ByteArray) (j : Nat) (s : List (Elem kc)) : Prop := s.length ≤ j ∧ ∀ e ∈ s, e.1.size ≤ t.size ∧ e.2.2.1.size ≤ t.size
theorem smR_add {t l : ByteArray} {j : Nat} {s : List (Elem kc)} (h : smR t j s) (hl : l.size ≤ t.size) (k : Int) : smR t (j + 1) (s ++ [kcE l k]) := by
  refine ⟨by rw [List.length_append]; show s.length + 1 ≤ _; have := h.1; omega, fun e he => ?_⟩
  rcases List.mem_append.1 he with he | he
  · exact h.2 e he
  · have he : e = kcE l k := by simpa using he
    rw [he]
    exact ⟨Nat.le_trans (kcE_1 l k) hl, Nat.le_trans (kcE_3 l k) hl⟩
theorem smR_up {t : ByteArray} {j : Nat} {s : List (Elem kc)} (h : smR t j s) : smR t (j + 1) s := ⟨by have := h.1; omega, h.2⟩
theorem sS_sm (t : ByteArray) : ∀ j, smR t j (sS t j)
  | 0 => ⟨Nat.le_refl _, fun e he => by cases he⟩
  | j + 1 => by
    have ih := sS_sm t j
    show smR t (j + 1) (lnSS (sS t j) (wd t 10 (j + 1)))
    unfold lnSS
    split
    · exact smR_up ih
    · split
      · exact smR_add ih (wd_size t 10 (j + 1)) _
      · exact smR_up ih
theorem iS_sm (t : ByteArray) : ∀ j, smR t j (iS t j)
  | 0 => ⟨Nat.le_refl _, fun e he => by cases he⟩
  | j + 1 => by
    have ih := iS_sm t j
    show smR t (j + 1) (liS (iS t j) (wd t 10 (j + 1)))
    unfold liS
    split
    · exact smR_up ih
    · split
      · exact smR_add ih (wd_size t 10 (j + 1)) _
      · exact smR_up ih
theorem sP_len (t : ByteArray) : ∀ j, (sP t j).length ≤ j
  | 0 => Nat.le_refl _
  | j + 1 => by
    have ih := sP_len t j
    show (lnPP (sP t j) (wd t 10 (j + 1))).length ≤ _
    unfold lnPP
    split
    · rw [List.length_append]
      show (sP t j).length + 1 ≤ _
      omega
    · omega
theorem iP_len (t : ByteArray) : ∀ j, (iP t j).length ≤ j
  | 0 => Nat.le_refl _
  | j + 1 => by
    have ih := iP_len t j
    show (liP (iP t j) (wd t 10 (j + 1))).length ≤ _
    unfold liP
    split
    · rw [List.length_append]
      show (iP t j).length + 1 ≤ _
      omega
    · omega
theorem smR_all {t : ByteArray} {j : Nat} {s : List (Elem kc)} {p : List (Elem k3)} (h : smR t j s) (ht : t.size ≤ 1048576) (hj : j ≤ 1048576) (hp : p.length ≤ 1048576) :
    smCo (0, s, [], p, false, [], 0) = true ∧ smB' (0, s, [], p, false, [], 0) = true ∧ smB (bkS s) = true := by
  have h0 := h.1
  have e1 : smCo (0, s, [], p, false, [], 0) = true := by
    unfold smCo
    simp only [Bool.and_eq_true, decide_eq_true_eq, List.length_nil]
    omega
  have e2 : smCs s = true := by
    unfold smCs
    rw [Bool.and_eq_true, decide_eq_true_eq, List.all_eq_true]
    refine ⟨by omega, fun e he => ?_⟩
    obtain ⟨q1, q2⟩ := h.2 e he
    unfold smC
    rw [Bool.and_eq_true, decide_eq_true_eq, decide_eq_true_eq]
    omega
  refine ⟨e1, ?_, ?_⟩
  · unfold smB'
    rw [e1]
    exact e2
  · unfold smB bkS
    rw [Bool.and_eq_true, decide_eq_true_eq, List.all_eq_true, List.length_map]
    refine ⟨by omega, fun e he => ?_⟩
    obtain ⟨u, hu, rfl⟩ := List.mem_map.1 he
    obtain ⟨q1, q2⟩ := h.2 u hu
    exact decide_eq_true (by show u.1.size ≤ _; omega)
theorem rrQ_r {t : ByteArray} {s : List (Elem kc)} {p : List (Elem k3)} (h : strEq (rootT s p) t = false) : rrQ t s p = false := by unfold rrQ; rw [h]; rfl
theorem rrQ_b {t : ByteArray} {s : List (Elem kc)} {p : List (Elem k3)} (h : bookOk (bkS s) = false) : rrQ t s p = false := by unfold rrQ; rw [h]; simp
theorem rrQ_p {t : ByteArray} {s : List (Elem kc)} {p : List (Elem k3)} (h : (p.length : Int) > 8) : rrQ t s p = false := by unfold rrQ; rw [decide_eq_false (show ¬ (p.length : Int) ≤ 8 by omega)]; simp
theorem rrQ_t {t : ByteArray} {s : List (Elem kc)} {p : List (Elem k3)} (h1 : strEq (rootT s p) t = true) (h2 : bookOk (bkS s) = true) (h3 : ¬ (p.length : Int) > 8) : rrQ t s p = true := by unfold rrQ; rw [h1, h2, decide_eq_true (show (p.length : Int) ≤ 8 by omega)]; rfl
theorem rr_f {t : ByteArray} (h : rrK t = false) : rrS t = [] ∧ rrP t = [] := by
  unfold rrS rrP
  rw [h]
  exact ⟨rfl, rfl⟩
theorem rr_t {t : ByteArray} (h : rrK t = true) : rrS t = sS t (lnN t) ∧ rrP t = sP t (lnN t) := by
  unfold rrS rrP
  rw [h]
  exact ⟨rfl, rfl⟩
theorem rrK_s {t : ByteArray} (h : (t.size : Int) > 420) : rrK t = false := by unfold rrK; rw [decide_eq_false (show ¬ (t.size : Int) ≤ 420 by omega)]; rfl
theorem rrK_l {t : ByteArray} {q : Nat} (hq : q < lnN t) (h : lnK (wd t 10 (q + 1)) = false) : rrK t = false := by unfold rrK; rw [allB_f hq h]; simp
theorem rrK_q {t : ByteArray} (h : rrQ t (sS t (lnN t)) (sP t (lnN t)) = false) : rrK t = false := by unfold rrK; rw [h]; simp
theorem ri_f {t : ByteArray} (h : riK t = false) : riS t = [] ∧ riP t = [] := by
  unfold riS riP
  rw [h]
  exact ⟨rfl, rfl⟩
theorem ri_t {t : ByteArray} (h : riK t = true) : riS t = iS t (lnN t) ∧ riP t = iP t (lnN t) := by
  unfold riS riP
  rw [h]
  exact ⟨rfl, rfl⟩
theorem riK_s {t : ByteArray} (h : (t.size : Int) > 420) : riK t = false := by unfold riK; rw [decide_eq_false (show ¬ (t.size : Int) ≤ 420 by omega)]; rfl
theorem riK_l {t : ByteArray} {q : Nat} (hq : q < lnN t) (h : liK (wd t 10 (q + 1)) = false) : riK t = false := by unfold riK; rw [allB_f hq h]; simp
theorem riK_q {t : ByteArray} (h : rrQ t (iS t (lnN t)) (iP t (lnN t)) = false) : riK t = false := by unfold riK; rw [h]; simp
theorem rrK_w {t : ByteArray} (h : strEq (wd t 10 0) ⟨#[114, 111, 111, 116]⟩ = false) : rrK t = false := by unfold rrK; rw [h]; simp
noncomputable def E35 : Env := E2.of Tryz.f35
noncomputable def G35 : Gk := gk [(93, g93), (94, g94), (95, g95), (80, g80), (96, g96)]
noncomputable def lp35 (n : Nat) : Code := (loopOf n (codeOf Tryz.f35)).getD .skip
noncomputable def ct35 (L : Lp) (R : Option Res → Prop) (n : Nat) : Kt := contOf E35 G35 L n (codeOf Tryz.f35) (endK E35 Tryz.f35.results.toList R)
noncomputable def rk35 (L : Lp) (R : Option Res → Prop) (n : Nat) (N : St → Prop) : Kt := rk (jof E35 (lp35 n)) N (ct35 L R n)
noncomputable def LOOP35 (L : Lp) (R : Option Res → Prop) (n : Nat) (st : St) : Prop := L (lp35 n) st (ct35 L R n)
theorem hg35 : HG Tryz.prog G35 := (hg_cons h93 (hg_cons h94 (hg_cons h95 (hg_cons h80 (hg_cons h96 hg_nil)))))
theorem okf35 : Ok Tryz.prog E35 := ok2.of Tryz.f35
theorem e35 (L : Lp) (R : Option Res → Prop) (t : ByteArray) : (bodyP E2 G35 L Tryz.f35 [.val (.string t)] [] R) = (
    br (decide (t.size ≤ 1048576) && true) (br (decide ((↑t.size : Int) > 420)) (R (some { av := AV.tup [AV.agg [vI 0, AV.ows 0, AV.ows 1, AV.ows 2, vB false, AV.ows 3, vI 0], vB false], obs := [AO.row kc [], AO.row k3 [], AO.row k3 [], AO.row ki []], outs := [] })) (br (decide ((0 : Int) ≤ 0 ∧ 0 < (↑(cutL t 10).length : Int))) (br (!strEq ((cutL t 10).getD 0 (edflt ks)).fst { data := #[114, 111, 111, 116] }) (R (some { av := AV.tup [AV.agg [vI 0, AV.ows 0, AV.ows 1, AV.ows 2, vB false, AV.ows 3, vI 0], vB false], obs := [AO.row kc [], AO.row k3 [], AO.row k3 [], AO.row ki []], outs := [] })) (LOOP35 L R 6 { tm := [vS t, vJ, AV.ptr 0 0, vJ, AV.ptr 5 0, AV.ows 10, vI 1, vJ, vJ, vJ, vJ, vJ, vJ, vJ, vJ, vJ, vJ, vJ, vJ, vJ, vJ, vJ, vJ, vJ, vJ, vJ, vJ, vJ, vJ, vJ, vJ, vJ, vJ, vJ, vJ, vJ, vJ, vJ, vJ, vJ, vJ, vJ, vJ, vJ, vJ, vJ, vJ, vJ, vJ, vJ, vJ, vJ, vJ, vJ, vJ, vJ, vJ, vJ, vJ], ob := [(0, AO.box [vI 0, AV.ows 1, AV.ows 2, AV.ows 3, vB false, AV.ows 4, vI 0]), (1, AO.row kc []), (2, AO.row k3 []), (3, AO.row k3 []), (4, AO.row ki []), (5, AO.box [vI 0, AV.ows 6, AV.ows 7, AV.ows 8, vB false, AV.ows 9, vI 0]), (6, AO.row kc []), (7, AO.row k3 []), (8, AO.row k3 []), (9, AO.row ki []), (10, AO.row ks (cutL t 10))], nx := 1000000, ps := [] })) False)) False) := by kernel_rfl
def st35 (t : ByteArray) (i : Int) (s : List (Elem kc)) (p : List (Elem k3)) : St :=  ⟨[vS t, vJ, AV.ptr 0 0, vJ, AV.ptr 5 0, AV.ows 10, .val (.int .i64 i), vJ, vJ, vJ, vJ, vJ, vJ, vJ, vJ, vJ, vJ, vJ, vJ, vJ, vJ, vJ, vJ, vJ, vJ, vJ, vJ, vJ, vJ, vJ, vJ, vJ, vJ, vJ, vJ, vJ, vJ, vJ, vJ, vJ, vJ, vJ, vJ, vJ, vJ, vJ, vJ, vJ, vJ, vJ, vJ, vJ, vJ, vJ, vJ, vJ, vJ, vJ, vJ], [(0, AO.box [vI 0, AV.ows 1, AV.ows 2, AV.ows 3, vB false, AV.ows 4, vI 0]), (1, AO.row kc []), (2, AO.row k3 []), (3, AO.row k3 []), (4, AO.row ki []), (5, AO.box [vI 0, AV.ows 6, AV.ows 7, AV.ows 8, vB false, AV.ows 9, vI 0]), (6, .row kc s), (7, AO.row k3 []), (8, .row k3 p), (9, AO.row ki []), (10, AO.row ks (cutL t 10))], 1000000, []⟩
theorem b35 (L : Lp) (R : Option Res → Prop) (N : St → Prop) (t : ByteArray) (i : Int) (s : List (Elem kc)) (p : List (Elem k3)) : (evP E35 G35 L (lp35 6) (st35 t i s p) (rk35 L R 6 N)) = (
    br (decide (i < (↑(cutL t 10).length : Int))) (br (decide (0 ≤ i ∧ i < (↑(cutL t 10).length : Int))) (br (decide (ByteArray.size ((cutL t 10).getD i.toNat (edflt ks)).fst ≤ 1048576) && (decide (s.length ≤ 1048576) && decide (p.length ≤ 1048576))) (br (!lnK ((cutL t 10).getD i.toNat (edflt ks)).fst) (R (some { av := AV.tup [AV.agg [vI 0, AV.ows 0, AV.ows 1, AV.ows 2, vB false, AV.ows 3, vI 0], vB false], obs := [AO.row kc [], AO.row k3 [], AO.row k3 [], AO.row ki []], outs := [] })) (N { tm := [vS t, vJ, AV.ptr 0 0, vJ, AV.ptr 5 0, AV.ows 10, vI (IntKind.i64.wrap (i + 1)), vJ, vJ, vJ, vJ, vJ, vJ, vJ, vJ, vJ, vJ, vJ, vJ, vJ, vJ, vJ, vJ, vJ, vJ, vJ, vJ, vJ, vJ, vJ, vJ, vJ, vJ, vJ, vJ, vJ, vJ, vJ, vJ, vJ, vJ, vJ, vJ, vJ, vJ, vJ, vJ, vJ, vJ, vJ, vJ, vJ, vJ, vJ, vJ, vJ, vJ, vJ, vJ], ob := [(0, AO.box [vI 0, AV.ows 1, AV.ows 2, AV.ows 3, vB false, AV.ows 4, vI 0]), (1, AO.row kc []), (2, AO.row k3 []), (3, AO.row k3 []), (4, AO.row ki []), (5, AO.box [vI 0, AV.ows 6, AV.ows 7, AV.ows 8, vB false, AV.ows 9, vI 0]), (6, AO.row kc (lnSS s ((cutL t 10).getD i.toNat (edflt ks)).fst)), (7, AO.row k3 []), (8, AO.row k3 (lnPP p ((cutL t 10).getD i.toNat (edflt ks)).fst)), (9, AO.row ki []), (10, AO.row ks (cutL t 10))], nx := 1000000, ps := [] })) False) False) (br (smB' (0, s, [], p, false, [], 0)) (br (!strEq (rootT s p) t) (R (some { av := AV.tup [AV.agg [vI 0, AV.ows 0, AV.ows 1, AV.ows 2, vB false, AV.ows 3, vI 0], vB false], obs := [AO.row kc [], AO.row k3 [], AO.row k3 [], AO.row ki []], outs := [] })) (br (smCo (0, s, [], p, false, [], 0)) (br (smB (bkS s)) (br (!bookOk (bkS s)) (R (some { av := AV.tup [AV.agg [vI 0, AV.ows 0, AV.ows 1, AV.ows 2, vB false, AV.ows 3, vI 0], vB false], obs := [AO.row kc [], AO.row k3 [], AO.row k3 [], AO.row ki []], outs := [] })) (br (decide ((↑p.length : Int) > 8)) (R (some { av := AV.tup [AV.agg [vI 0, AV.ows 0, AV.ows 1, AV.ows 2, vB false, AV.ows 3, vI 0], vB false], obs := [AO.row kc [], AO.row k3 [], AO.row k3 [], AO.row ki []], outs := [] })) (R (some { av := AV.tup [AV.agg [vI 0, AV.ows 0, AV.ows 1, AV.ows 2, vB false, AV.ows 3, vI 0], vB true], obs := [AO.row kc s, AO.row k3 [], AO.row k3 p, AO.row ki []], outs := [] })))) False) False)) False)) := by kernel_rfl
theorem h35 : G1Ok Tryz.prog 35 g35 := by
  intro args obs k h
  unfold g35 at h
  split at h
  · rename_i k t
    obtain ⟨ht, h⟩ := brd h
    refine ⟨_, ctr_fn ok2 hg35 Tryz.func35 (by kernel_rfl) (by kernel_rfl) (by kernel_rfl) fun C => ?_, h⟩
    rw [e35]
    have bad : rrK t = false → (some ⟨.tup [.agg [.val (.int .i64 0), .ows 0, .ows 1, .ows 2, .val (.bool false), .ows 3, .val (.int .i64 0)], .val (.bool false)], [.row kc [], .row k3 [], .row k3 [], .row ki []], []⟩ : Option Res) = some ⟨.tup [.agg [.val (.int .i64 0), .ows 0, .ows 1, .ows 2, .val (.bool false), .ows 3, .val (.int .i64 0)], .val (.bool (rrK t))], [.row kc (rrS t), .row k3 [], .row k3 (rrP t), .row ki []], []⟩ := by
      intro hk
      rw [(rr_f hk).1, (rr_f hk).2, hk]
    have hp1 := cutL_pos t 10
    have hp2 := cutL_cnt t 10
    refine br_t (by rw [decide_eq_true ht]; rfl) (br_dec (fun h1 => bad (rrK_s h1)) (fun h1 => br_yes ⟨by omega, by omega⟩ (br_not (fun h2 => bad (rrK_w h2)) (fun h2 => ?_))))
    have h2 : strEq (wd t 10 0) ⟨#[114, 111, 111, 116]⟩ = true := h2
    refine loopUp okf35 hg35 (fun i (a : List (Elem kc) × List (Elem k3)) => st35 t ((i : Int) + 1) a.1 a.2) (lnN t) (fun i a => a.1 = sS t i ∧ a.2 = sP t i ∧ ∀ q, q < i → lnK (wd t 10 (q + 1)) = true) (fun N i ⟨s, p⟩ hi ⟨hs, hp, hq⟩ next => ?_) ([], []) ⟨rfl, rfl, fun q hq => by omega⟩
    show evP E35 G35 _ (lp35 6) (st35 t ((i : Int) + 1) s p) (rk35 _ _ 6 _)
    simp only at hs hp next
    have hn : lnN t = (cutL t 10).length - 1 := rfl
    have hsm := sS_sm t i
    rw [← hs] at hsm
    have hpm : p.length ≤ i := by rw [hp]; exact sP_len t i
    have e1 : ((i : Int) + 1).toNat = i + 1 := by omega
    rw [b35, e1, wrap_id (n := (i : Int) + 1 + 1) (by omega) (by omega)]
    refine br_dec (fun h3 => br_yes ⟨by omega, by omega⟩ (br_t ?_ (br_not (fun h4 => bad (rrK_l (q := i) (by omega) h4)) (fun h4 => ?_)))) (fun h3 => ?_)
    · rw [decide_eq_true (show ByteArray.size ((cutL t 10).getD (i + 1) (edflt ks)).fst ≤ 1048576 from Nat.le_trans (wd_size t 10 (i + 1)) ht), decide_eq_true (show s.length ≤ 1048576 by have := hsm.1; omega), decide_eq_true (show p.length ≤ 1048576 by omega)]
      rfl
    · refine next (by omega) (_, _) ⟨by rw [hs]; rfl, by rw [hp]; rfl, fun q hq2 => ?_⟩
      by_cases e : q < i
      · exact hq q e
      · obtain rfl : q = i := by omega
        exact h4
    · have hin : lnN t = i := by omega
      obtain ⟨m1, m2, m3⟩ := smR_all (p := p) hsm ht (by omega) (by omega)
      have hall : (allB (lnN t) fun q => lnK (wd t 10 (q + 1))) = true := allB_t fun q hq2 => hq q (by omega)
      have es : sS t (lnN t) = s := by rw [hin, hs]
      have ep : sP t (lnN t) = p := by rw [hin, hp]
      refine br_t m2 (br_not (fun h5 => bad (rrK_q (by rw [es, ep]; exact rrQ_r h5))) (fun h5 => br_t m1 (br_t m3 (br_not (fun h6 => bad (rrK_q (by rw [es, ep]; exact rrQ_b h6))) (fun h6 => br_dec (fun h7 => bad (rrK_q (by rw [es, ep]; exact rrQ_p h7))) (fun h7 => ?_))))))
      have hk : rrK t = true := by
        unfold rrK
        rw [es, ep, rrQ_t h5 h6 h7, hall, h2, decide_eq_true (show (t.size : Int) ≤ 420 by omega)]
        rfl
      show _ = _
      rw [(rr_t hk).1, (rr_t hk).2, hk, es, ep]
  · exact h.elim
noncomputable def E36 : Env := E2.of Tryz.f36
noncomputable def G36 : Gk := gk [(97, g97), (98, g98), (85, g80), (99, g96), (100, g95)]
noncomputable def lp36 (n : Nat) : Code := (loopOf n (codeOf Tryz.f36)).getD .skip
noncomputable def ct36 (L : Lp) (R : Option Res → Prop) (n : Nat) : Kt := contOf E36 G36 L n (codeOf Tryz.f36) (endK E36 Tryz.f36.results.toList R)
noncomputable def rk36 (L : Lp) (R : Option Res → Prop) (n : Nat) (N : St → Prop) : Kt := rk (jof E36 (lp36 n)) N (ct36 L R n)
noncomputable def LOOP36 (L : Lp) (R : Option Res → Prop) (n : Nat) (st : St) : Prop := L (lp36 n) st (ct36 L R n)
theorem hg36 : HG Tryz.prog G36 := (hg_cons h97 (hg_cons h98 (hg_cons h85 (hg_cons h99 (hg_cons h100 hg_nil)))))
theorem okf36 : Ok Tryz.prog E36 := ok2.of Tryz.f36
theorem e36 (L : Lp) (R : Option Res → Prop) (t : ByteArray) : (bodyP E2 G36 L Tryz.f36 [.val (.string t)] [] R) = (
    br (decide ((↑t.size : Int) > 420)) (R (some { av := AV.tup [AV.agg [vI 0, AV.ows 0, AV.ows 1, AV.ows 2, vB false, AV.ows 3, vI 0], vB false], obs := [AO.row kc [], AO.row k3 [], AO.row k3 [], AO.row ki []], outs := [] })) (br (decide (t.size ≤ 1048576) && true) (br (decide ((0 : Int) ≤ 1 ∧ 1 ≤ (↑(cutL t 10).length : Int) ∧ (↑(cutL t 10).length : Int) ≤ (↑(cutL t 10).length : Int) ∧ (↑(cutL t 10).length : Int) ≤ (↑(cutL t 10).length : Int))) (LOOP36 L R 6 { tm := [vS t, vJ, AV.ptr 0 0, vJ, vJ, AV.ptr 5 0, vJ, vJ, vJ, vJ, vJ, vJ, vJ, vJ, vJ, AV.osl 10 1 ((↑(cutL t 10).length : Int) - 1).toNat, vI (↑((↑(cutL t 10).length : Int) - 1).toNat : Int), vI 0, vJ, vJ, vJ, vJ, vJ, vJ, vJ, vJ, vJ, vJ, vJ, vJ, vJ, vJ, vJ, vJ, vJ, vJ, vJ, vJ, vJ, vJ, vJ, vJ, vJ, vJ], ob := [(0, AO.box [vI 0, AV.ows 1, AV.ows 2, AV.ows 3, vB false, AV.ows 4, vI 0]), (1, AO.row kc []), (2, AO.row k3 []), (3, AO.row k3 []), (4, AO.row ki []), (5, AO.box [vI 0, AV.ows 6, AV.ows 7, AV.ows 8, vB false, AV.ows 9, vI 0]), (6, AO.row kc []), (7, AO.row k3 []), (8, AO.row k3 []), (9, AO.row ki []), (10, AO.row ks (cutL t 10))], nx := 1000000, ps := [] }) False) False)) := by kernel_rfl
def st36 (t : ByteArray) (i : Int) (s : List (Elem kc)) (p : List (Elem k3)) : St :=  ⟨[vS t, vJ, AV.ptr 0 0, vJ, vJ, AV.ptr 5 0, vJ, vJ, vJ, vJ, vJ, vJ, vJ, vJ, vJ, AV.osl 10 1 ((↑(cutL t 10).length : Int) - 1).toNat, vI (↑((↑(cutL t 10).length : Int) - 1).toNat : Int), .val (.int .i64 i), vJ, vJ, vJ, vJ, vJ, vJ, vJ, vJ, vJ, vJ, vJ, vJ, vJ, vJ, vJ, vJ, vJ, vJ, vJ, vJ, vJ, vJ, vJ, vJ, vJ, vJ], [(0, AO.box [vI 0, AV.ows 1, AV.ows 2, AV.ows 3, vB false, AV.ows 4, vI 0]), (1, AO.row kc []), (2, AO.row k3 []), (3, AO.row k3 []), (4, AO.row ki []), (5, AO.box [vI 0, AV.ows 6, AV.ows 7, AV.ows 8, vB false, AV.ows 9, vI 0]), (6, .row kc s), (7, AO.row k3 []), (8, .row k3 p), (9, AO.row ki []), (10, AO.row ks (cutL t 10))], 1000000, []⟩
theorem b36 (L : Lp) (R : Option Res → Prop) (N : St → Prop) (t : ByteArray) (i : Int) (s : List (Elem kc)) (p : List (Elem k3)) : (evP E36 G36 L (lp36 6) (st36 t i s p) (rk36 L R 6 N)) = (
    br (decide (i < (↑((↑(cutL t 10).length : Int) - 1).toNat : Int))) (br (decide (0 ≤ i ∧ i < (↑((↑(cutL t 10).length : Int) - 1).toNat : Int))) (br (decide (ByteArray.size ((cutL t 10).getD (1 + i.toNat) (edflt ks)).fst ≤ 1048576) && (decide (s.length ≤ 1048576) && decide (p.length ≤ 1048576))) (br (!liK ((cutL t 10).getD (1 + i.toNat) (edflt ks)).fst) (R (some { av := AV.tup [AV.agg [vI 0, AV.ows 0, AV.ows 1, AV.ows 2, vB false, AV.ows 3, vI 0], vB false], obs := [AO.row kc [], AO.row k3 [], AO.row k3 [], AO.row ki []], outs := [] })) (N { tm := [vS t, vJ, AV.ptr 0 0, vJ, vJ, AV.ptr 5 0, vJ, vJ, vJ, vJ, vJ, vJ, vJ, vJ, vJ, AV.osl 10 1 ((↑(cutL t 10).length : Int) - 1).toNat, vI (↑((↑(cutL t 10).length : Int) - 1).toNat : Int), vI (IntKind.i64.wrap (i + 1)), vJ, vJ, vJ, vJ, vJ, vJ, vJ, vJ, vJ, vJ, vJ, vJ, vJ, vJ, vJ, vJ, vJ, vJ, vJ, vJ, vJ, vJ, vJ, vJ, vJ, vJ], ob := [(0, AO.box [vI 0, AV.ows 1, AV.ows 2, AV.ows 3, vB false, AV.ows 4, vI 0]), (1, AO.row kc []), (2, AO.row k3 []), (3, AO.row k3 []), (4, AO.row ki []), (5, AO.box [vI 0, AV.ows 6, AV.ows 7, AV.ows 8, vB false, AV.ows 9, vI 0]), (6, AO.row kc (liS s ((cutL t 10).getD (1 + i.toNat) (edflt ks)).fst)), (7, AO.row k3 []), (8, AO.row k3 (liP p ((cutL t 10).getD (1 + i.toNat) (edflt ks)).fst)), (9, AO.row ki []), (10, AO.row ks (cutL t 10))], nx := 1000000, ps := [] })) False) False) (br (decide ((↑p.length : Int) > 8)) (R (some { av := AV.tup [AV.agg [vI 0, AV.ows 0, AV.ows 1, AV.ows 2, vB false, AV.ows 3, vI 0], vB false], obs := [AO.row kc [], AO.row k3 [], AO.row k3 [], AO.row ki []], outs := [] })) (br (smCo (0, s, [], p, false, [], 0)) (br (smB (bkS s)) (br (!bookOk (bkS s)) (R (some { av := AV.tup [AV.agg [vI 0, AV.ows 0, AV.ows 1, AV.ows 2, vB false, AV.ows 3, vI 0], vB false], obs := [AO.row kc [], AO.row k3 [], AO.row k3 [], AO.row ki []], outs := [] })) (br (smB' (0, s, [], p, false, [], 0)) (br (!strEq (rootT s p) t) (R (some { av := AV.tup [AV.agg [vI 0, AV.ows 0, AV.ows 1, AV.ows 2, vB false, AV.ows 3, vI 0], vB false], obs := [AO.row kc [], AO.row k3 [], AO.row k3 [], AO.row ki []], outs := [] })) (R (some { av := AV.tup [AV.agg [vI 0, AV.ows 0, AV.ows 1, AV.ows 2, vB false, AV.ows 3, vI 0], vB true], obs := [AO.row kc s, AO.row k3 [], AO.row k3 p, AO.row ki []], outs := [] }))) False)) False) False))) := by kernel_rfl
theorem h36 : G1Ok Tryz.prog 36 g36i := by
  intro args obs k h
  unfold g36i at h
  split at h
  · rename_i k t
    obtain ⟨ht, h⟩ := brd h
    refine ⟨_, ctr_fn ok2 hg36 Tryz.func36 (by kernel_rfl) (by kernel_rfl) (by kernel_rfl) fun C => ?_, h⟩
    rw [e36]
    have bad : riK t = false → (some ⟨.tup [.agg [.val (.int .i64 0), .ows 0, .ows 1, .ows 2, .val (.bool false), .ows 3, .val (.int .i64 0)], .val (.bool false)], [.row kc [], .row k3 [], .row k3 [], .row ki []], []⟩ : Option Res) = some ⟨.tup [.agg [.val (.int .i64 0), .ows 0, .ows 1, .ows 2, .val (.bool false), .ows 3, .val (.int .i64 0)], .val (.bool (riK t))], [.row kc (riS t), .row k3 [], .row k3 (riP t), .row ki []], []⟩ := by
      intro hk
      rw [(ri_f hk).1, (ri_f hk).2, hk]
    have hp1 := cutL_pos t 10
    have hp2 := cutL_cnt t 10
    refine br_dec (fun h1 => bad (riK_s h1)) (fun h1 => br_t (by rw [decide_eq_true ht]; rfl) (br_yes ⟨by omega, by omega, by omega, by omega⟩ ?_))
    refine loopUp okf36 hg36 (fun i (a : List (Elem kc) × List (Elem k3)) => st36 t i a.1 a.2) (lnN t) (fun i a => a.1 = iS t i ∧ a.2 = iP t i ∧ ∀ q, q < i → liK (wd t 10 (q + 1)) = true) (fun N i ⟨s, p⟩ hi ⟨hs, hp, hq⟩ next => ?_) ([], []) ⟨rfl, rfl, fun q hq => by omega⟩
    show evP E36 G36 _ (lp36 6) (st36 t i s p) (rk36 _ _ 6 _)
    simp only at hs hp next
    have hn : lnN t = (cutL t 10).length - 1 := rfl
    have hsm := iS_sm t i
    rw [← hs] at hsm
    have hpm : p.length ≤ i := by rw [hp]; exact iP_len t i
    rw [b36, Int.toNat_natCast, Nat.add_comm 1 i, wrap_id (n := (i : Int) + 1) (by omega) (by omega)]
    refine br_dec (fun h3 => br_yes ⟨by omega, by omega⟩ (br_t ?_ (br_not (fun h4 => bad (riK_l (q := i) (by omega) h4)) (fun h4 => ?_)))) (fun h3 => ?_)
    · rw [decide_eq_true (show ByteArray.size ((cutL t 10).getD (i + 1) (edflt ks)).fst ≤ 1048576 from Nat.le_trans (wd_size t 10 (i + 1)) ht), decide_eq_true (show s.length ≤ 1048576 by have := hsm.1; omega), decide_eq_true (show p.length ≤ 1048576 by omega)]
      rfl
    · refine next (by omega) (_, _) ⟨by rw [hs]; rfl, by rw [hp]; rfl, fun q hq2 => ?_⟩
      by_cases e : q < i
      · exact hq q e
      · obtain rfl : q = i := by omega
        exact h4
    · have hin : lnN t = i := by omega
      obtain ⟨m1, m2, m3⟩ := smR_all (p := p) hsm ht (by omega) (by omega)
      have hall : (allB (lnN t) fun q => liK (wd t 10 (q + 1))) = true := allB_t fun q hq2 => hq q (by omega)
      have es : iS t (lnN t) = s := by rw [hin, hs]
      have ep : iP t (lnN t) = p := by rw [hin, hp]
      refine br_dec (fun h7 => bad (riK_q (by rw [es, ep]; exact rrQ_p h7))) (fun h7 => br_t m1 (br_t m3 (br_not (fun h6 => bad (riK_q (by rw [es, ep]; exact rrQ_b h6))) (fun h6 => br_t m2 (br_not (fun h5 => bad (riK_q (by rw [es, ep]; exact rrQ_r h5))) (fun h5 => ?_))))))
      have hk : riK t = true := by
        unfold riK
        rw [es, ep, rrQ_t h5 h6 h7, hall, decide_eq_true (show (t.size : Int) ≤ 420 by omega)]
        rfl
      show _ = _
      rw [(ri_t hk).1, (ri_t hk).2, hk, es, ep]
  · exact h.elim
end Go.Proofs.YtkjnijddbiconaaGreatDoor.Ev
