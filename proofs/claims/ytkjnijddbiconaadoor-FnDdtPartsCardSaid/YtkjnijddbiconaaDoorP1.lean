/- The law of FnDdtParts: what is drawn. -/
import Derived.Test.YtkjnijddbiconaaDoorL3
import Derived.Test.YtkjnijddbiconaaDoorW5
namespace Go.Proofs.YtkjnijddbiconaaDoor.Ev
open Go
set_option linter.unusedVariables false
set_option linter.unusedSimpArgs false
set_option maxRecDepth 100000
def drL (B : List (Elem ku)) : List (Elem k3) := lfL B (lsQ B 0) (lsR B 0).2
def drP (B : List (Elem ku)) : Int := lfP B (lsQ B 0) (lsR B 0).2
def g20 : G1
  | [.rsl [.int .u8] c], [], k => br (okB c && decide (c.length ≤ 1048576)) (k ⟨.ows 0, [.row k3 (drL (opB c))], []⟩) False
  | _, _, _ => False
noncomputable def G20 : Gk := gk [(29, g29), (45, g45)]
theorem hg20 : HG Tryd.prog G20 := (hg_cons h29 (hg_cons h45 hg_nil))
theorem e20 (L : Lp) (R : Option Res → Prop) (c : List (Elem [.int .u8])) : (bodyP Er G20 L Tryd.f20 [.rsl [.int .u8] c] [] R) = (
    br (okB c && decide (c.length ≤ 1048576)) (br (okB (opB c) && (decide ((opB c).length ≤ 1048576) && true)) (R (some { av := AV.ows 0, obs := [AO.row k3 (lfL (opB c) (lsQ (opB c) 0) (lsR (opB c) 0).snd)], outs := [] })) False) False) := by kernel_rfl
theorem lsQ_lt {B : List (Elem ku)} (hb : okB B = true) : 0 ≤ lsQ B 0 ∧ lsQ B 0 ≤ 20 := by
  have := pk_lt hb (p := 0) (by omega) (by omega) (show (1 : Int) ≤ 8 by omega)
  unfold lsQ
  omega
theorem lsR_ok {B : List (Elem ku)} (hb : okB B = true) : dkOk z12 z12 (lsR B 0).1 = true ∧ (lsR B 0).1.length ≤ 16 ∧ (lsR B 0).2.length ≤ 8 := by
  have h8 := pk_lt hb (p := 0) (by omega) (by omega) (show (1 : Int) ≤ 8 by omega)
  have := ls_ok hb (p := 0 + 1) (by omega) (by omega) (pk B 0 8).toNat (by omega)
  unfold lsR
  exact ⟨this.1, by omega, by omega⟩
theorem lfL_len (b : List (Elem ku)) (p : Int) (l : List (Elem k3)) : (lfL b p l).length ≤ l.length + 1 := by
  unfold lfL
  repeat' split
  all_goals simp
theorem drL_len {B : List (Elem ku)} (hb : okB B = true) : (drL B).length ≤ 9 := by
  have h1 := lfL_len B (lsQ B 0) (lsR B 0).2
  have h2 := (lsR_ok hb).2.2
  unfold drL
  omega
theorem drP_lt {B : List (Elem ku)} (hb : okB B = true) : 0 ≤ drP B ∧ drP B ≤ 23 := by
  have h := lsQ_lt hb
  unfold drP lfP
  repeat' split
  all_goals omega
theorem h20 : G1Ok Tryd.prog 20 g20 := by
  intro args obs k h
  unfold g20 at h
  split at h
  · rename_i k c
    obtain ⟨hq, h⟩ := br_and h
    have hq' := hq
    simp only [Bool.and_eq_true, decide_eq_true_eq] at hq'
    have hl := opB_len c
    refine ⟨_, ctr_fn okr hg20 Tryd.func20 (by kernel_rfl) (by kernel_rfl) (by kernel_rfl) fun C => ?_, h⟩
    rw [e20]
    refine br_t hq (br_t (by rw [opB_ok hq'.1, decide_eq_true (show (opB c).length ≤ 1048576 by omega)]; rfl) ?_)
    rfl
  · exact h.elim
def dS (B : List (Elem ku)) : ByteArray := ddtT (drL B)
def dK (B : List (Elem ku)) : Int := pk B (drP B + 1) (dS B).size
def dW : List (Elem ks) := [(⟨#[]⟩, ()), (⟨#[48]⟩, ()), (⟨#[46]⟩, ()), (⟨#[32]⟩, ()), (⟨#[49]⟩, ())]
def tornD (B : List (Elem ku)) : ByteArray := match ((dS B).size : Int) == 0 with
  | true => dS B
  | false => match pk B (drP B) 2 == 0 with
    | true => dS B
    | false => (dS B).extract 0 (dK B).toNat ++ at1 dW (pk B (drP B + 1 + 1) 5).toNat ++ (dS B).extract (IntKind.i64.wrap (dK B + pk B (drP B + 1 + 1 + 1) 2)).toNat ((dS B).size : Int).toNat
def g25 : G1
  | [.rsl [.int .u8] c], [], k => br (okB c && decide (c.length ≤ 1048576)) (k ⟨.val (.string (tornD (opB c))), [], []⟩) False
  | _, _, _ => False
theorem cutp_size (s : ByteArray) (i j : Nat) : (s.extract i j).size ≤ s.size := by
  rw [ByteArray.size_extract]
  omega
theorem dW_size (i : Nat) : (at1 dW i).size ≤ 1 := by
  unfold at1 dW
  match i with
  | 0 | 1 | 2 | 3 | 4 => decide
  | i + 5 => exact Nat.zero_le _
theorem joinW_len (c : UInt8) (m : Nat) : ∀ (ws : List (List UInt8)), (∀ w ∈ ws, w.length ≤ m) → (joinW c ws).length ≤ ws.length * (m + 1)
  | [], _ => Nat.zero_le _
  | [w], h => by
    have := h w (by simp)
    show w.length ≤ 1 * (m + 1)
    omega
  | w :: v :: ws, h => by
    have ih := joinW_len c m (v :: ws) (fun x hx => h x (List.mem_cons_of_mem _ hx))
    have h1 := h w (by simp)
    show (w ++ c :: joinW c (v :: ws)).length ≤ (w :: v :: ws).length * (m + 1)
    rw [List.length_append, List.length_cons, List.length_cons (a := w), Nat.add_mul]
    omega
theorem dec_short {n : Int} (h : 0 ≤ n ∧ n ≤ 65520) : (dec n).size ≤ 5 := by
  have e : (dec n).size = (decD n.toNat).length := by rw [← dec_data h.1]; rfl
  have := decD_short 4 n.toNat (by omega)
  omega
theorem entT_size {e : Elem k3} (ha : 0 ≤ e.1 ∧ e.1 ≤ 65520) (hb : 0 ≤ e.2.1 ∧ e.2.1 ≤ 65520) (hc : 0 ≤ e.2.2.1 ∧ e.2.2.1 ≤ 65520) : 2 ≤ (entT e).size ∧ (entT e).size ≤ 17 := by
  have h1 := dec_short ha
  have h2 := dec_short hb
  have h3 := dec_short hc
  have h46 : (⟨#[46]⟩ : ByteArray).size = 1 := rfl
  unfold entT
  rw [ByteArray.size_append, ByteArray.size_append, ByteArray.size_append, ByteArray.size_append]
  omega
theorem entS_size {L : List (Elem k3)} (hd : ddtOk L = true) : ∀ e ∈ entS L, 2 ≤ e.1.size ∧ e.1.size ≤ 17 := by
  intro e he
  unfold entS at he
  obtain ⟨x, hx, rfl⟩ := List.mem_map.1 he
  obtain ⟨j, hj, rfl⟩ := List.getElem_of_mem hx
  obtain ⟨a, b, c⟩ := ddtOk_ent hd hj
  rw [List.getD_eq_getElem?_getD, List.getElem?_eq_getElem hj] at a b c
  exact entT_size a b c
theorem ddtT_size (L : List (Elem k3)) : (ddtT L).size ≤ 864 := by
  unfold ddtT
  split
  · rename_i hd
    have h48 := ddtOk_len hd
    have e : (joinT (entS L) ⟨#[32]⟩).size = (joinT (entS L) ⟨#[32]⟩).data.toList.length := rfl
    rw [e, joinT_data]
    have := joinW_len 32 17 (txt (entS L)) (fun w hw => by
      unfold txt at hw
      obtain ⟨x, hx, rfl⟩ := List.mem_map.1 hw
      exact (entS_size hd x hx).2)
    have hl : (txt (entS L)).length = L.length := by unfold txt entS; simp
    omega
  · exact Nat.zero_le _
noncomputable def G25 : Gk := gk [(29, g29), (45, g45), (22, g22), (34, g34), (35, g35)]
theorem hg25 : HG Tryd.prog G25 := (hg_cons h29 (hg_cons h45 (hg_cons h22 (hg_cons h34 (hg_cons h35 hg_nil)))))
theorem e25 (L : Lp) (R : Option Res → Prop) (c : List (Elem [.int .u8])) : (bodyP Er G25 L Tryd.f25 [.rsl [.int .u8] c] [] R) = (
    br (okB c && decide (c.length ≤ 1048576)) (br (okB (opB c) && (decide ((opB c).length ≤ 1048576) && true)) (br (decide ((lfL (opB c) (lsQ (opB c) 0) (lsR (opB c) 0).snd).length ≤ 1048576)) (br ((↑(ddtT (lfL (opB c) (lsQ (opB c) 0) (lsR (opB c) 0).snd)).size : Int) == 0) (R (some { av := vS (ddtT (lfL (opB c) (lsQ (opB c) 0) (lsR (opB c) 0).snd)), obs := [], outs := [] })) (br (okB (opB c) && (decide ((opB c).length ≤ 1048576) && (decide (0 ≤ lfP (opB c) (lsQ (opB c) 0) (lsR (opB c) 0).snd ∧ lfP (opB c) (lsQ (opB c) 0) (lsR (opB c) 0).snd ≤ 1000000) && true))) (br (pk (opB c) (lfP (opB c) (lsQ (opB c) 0) (lsR (opB c) 0).snd) 2 == 0) (R (some { av := vS (ddtT (lfL (opB c) (lsQ (opB c) 0) (lsR (opB c) 0).snd)), obs := [], outs := [] })) (br (okB (opB c) && (decide ((opB c).length ≤ 1048576) && (decide (0 ≤ lfP (opB c) (lsQ (opB c) 0) (lsR (opB c) 0).snd + 1 ∧ lfP (opB c) (lsQ (opB c) 0) (lsR (opB c) 0).snd + 1 ≤ 1000000) && decide ((↑(ddtT (lfL (opB c) (lsQ (opB c) 0) (lsR (opB c) 0).snd)).size : Int) ≤ 1000000)))) (br (decide ((0 : Int) ≤ 0 ∧ 0 ≤ pk (opB c) (lfP (opB c) (lsQ (opB c) 0) (lsR (opB c) 0).snd + 1) (↑(ddtT (lfL (opB c) (lsQ (opB c) 0) (lsR (opB c) 0).snd)).size : Int) ∧ pk (opB c) (lfP (opB c) (lsQ (opB c) 0) (lsR (opB c) 0).snd + 1) (↑(ddtT (lfL (opB c) (lsQ (opB c) 0) (lsR (opB c) 0).snd)).size : Int) ≤ (↑(ddtT (lfL (opB c) (lsQ (opB c) 0) (lsR (opB c) 0).snd)).size : Int))) (br (okB (opB c) && (decide ((opB c).length ≤ 1048576) && (decide (0 ≤ lfP (opB c) (lsQ (opB c) 0) (lsR (opB c) 0).snd + 1 + 1 ∧ lfP (opB c) (lsQ (opB c) 0) (lsR (opB c) 0).snd + 1 + 1 ≤ 1000000) && true))) (br (decide (((ddtT (lfL (opB c) (lsQ (opB c) 0) (lsR (opB c) 0).snd)).extract 0 (pk (opB c) (lfP (opB c) (lsQ (opB c) 0) (lsR (opB c) 0).snd + 1) (↑(ddtT (lfL (opB c) (lsQ (opB c) 0) (lsR (opB c) 0).snd)).size : Int)).toNat).size + (at1 [({ data := #[] }, ()), ({ data := #[48] }, ()), ({ data := #[46] }, ()), ({ data := #[32] }, ()), ({ data := #[49] }, ())] (pk (opB c) (lfP (opB c) (lsQ (opB c) 0) (lsR (opB c) 0).snd + 1 + 1) 5).toNat).size ≤ 9223372036854775807)) (br (okB (opB c) && (decide ((opB c).length ≤ 1048576) && (decide (0 ≤ lfP (opB c) (lsQ (opB c) 0) (lsR (opB c) 0).snd + 1 + 1 + 1 ∧ lfP (opB c) (lsQ (opB c) 0) (lsR (opB c) 0).snd + 1 + 1 + 1 ≤ 1000000) && true))) (br (decide (0 ≤ IntKind.i64.wrap (pk (opB c) (lfP (opB c) (lsQ (opB c) 0) (lsR (opB c) 0).snd + 1) (↑(ddtT (lfL (opB c) (lsQ (opB c) 0) (lsR (opB c) 0).snd)).size : Int) + pk (opB c) (lfP (opB c) (lsQ (opB c) 0) (lsR (opB c) 0).snd + 1 + 1 + 1) 2) ∧ IntKind.i64.wrap (pk (opB c) (lfP (opB c) (lsQ (opB c) 0) (lsR (opB c) 0).snd + 1) (↑(ddtT (lfL (opB c) (lsQ (opB c) 0) (lsR (opB c) 0).snd)).size : Int) + pk (opB c) (lfP (opB c) (lsQ (opB c) 0) (lsR (opB c) 0).snd + 1 + 1 + 1) 2) ≤ (↑(ddtT (lfL (opB c) (lsQ (opB c) 0) (lsR (opB c) 0).snd)).size : Int) ∧ (↑(ddtT (lfL (opB c) (lsQ (opB c) 0) (lsR (opB c) 0).snd)).size : Int) ≤ (↑(ddtT (lfL (opB c) (lsQ (opB c) 0) (lsR (opB c) 0).snd)).size : Int))) (br (decide (((ddtT (lfL (opB c) (lsQ (opB c) 0) (lsR (opB c) 0).snd)).extract 0 (pk (opB c) (lfP (opB c) (lsQ (opB c) 0) (lsR (opB c) 0).snd + 1) (↑(ddtT (lfL (opB c) (lsQ (opB c) 0) (lsR (opB c) 0).snd)).size : Int)).toNat ++ at1 [({ data := #[] }, ()), ({ data := #[48] }, ()), ({ data := #[46] }, ()), ({ data := #[32] }, ()), ({ data := #[49] }, ())] (pk (opB c) (lfP (opB c) (lsQ (opB c) 0) (lsR (opB c) 0).snd + 1 + 1) 5).toNat).size + ((ddtT (lfL (opB c) (lsQ (opB c) 0) (lsR (opB c) 0).snd)).extract (IntKind.i64.wrap (pk (opB c) (lfP (opB c) (lsQ (opB c) 0) (lsR (opB c) 0).snd + 1) (↑(ddtT (lfL (opB c) (lsQ (opB c) 0) (lsR (opB c) 0).snd)).size : Int) + pk (opB c) (lfP (opB c) (lsQ (opB c) 0) (lsR (opB c) 0).snd + 1 + 1 + 1) 2)).toNat (↑(ddtT (lfL (opB c) (lsQ (opB c) 0) (lsR (opB c) 0).snd)).size : Int).toNat).size ≤ 9223372036854775807)) (R (some { av := vS ((ddtT (lfL (opB c) (lsQ (opB c) 0) (lsR (opB c) 0).snd)).extract 0 (pk (opB c) (lfP (opB c) (lsQ (opB c) 0) (lsR (opB c) 0).snd + 1) (↑(ddtT (lfL (opB c) (lsQ (opB c) 0) (lsR (opB c) 0).snd)).size : Int)).toNat ++ at1 [({ data := #[] }, ()), ({ data := #[48] }, ()), ({ data := #[46] }, ()), ({ data := #[32] }, ()), ({ data := #[49] }, ())] (pk (opB c) (lfP (opB c) (lsQ (opB c) 0) (lsR (opB c) 0).snd + 1 + 1) 5).toNat ++ (ddtT (lfL (opB c) (lsQ (opB c) 0) (lsR (opB c) 0).snd)).extract (IntKind.i64.wrap (pk (opB c) (lfP (opB c) (lsQ (opB c) 0) (lsR (opB c) 0).snd + 1) (↑(ddtT (lfL (opB c) (lsQ (opB c) 0) (lsR (opB c) 0).snd)).size : Int) + pk (opB c) (lfP (opB c) (lsQ (opB c) 0) (lsR (opB c) 0).snd + 1 + 1 + 1) 2)).toNat (↑(ddtT (lfL (opB c) (lsQ (opB c) 0) (lsR (opB c) 0).snd)).size : Int).toNat), obs := [], outs := [] })) False) False) False) False) False) False) False)) False)) False) False) False) := by kernel_rfl
theorem tornD_size (B : List (Elem ku)) : (tornD B).size ≤ 2000 := by
  have h1 : (dS B).size ≤ 864 := ddtT_size _
  unfold tornD
  repeat' split
  · omega
  · omega
  · rw [ByteArray.size_append, ByteArray.size_append]
    have := cutp_size (dS B) 0 (dK B).toNat
    have := dW_size (pk B (drP B + 1 + 1) 5).toNat
    have := cutp_size (dS B) (IntKind.i64.wrap (dK B + pk B (drP B + 1 + 1 + 1) 2)).toNat ((dS B).size : Int).toNat
    omega
theorem h25 : G1Ok Tryd.prog 25 g25 := by
  intro args obs k h
  unfold g25 at h
  split at h
  · rename_i k c
    obtain ⟨hq, h⟩ := br_and h
    have hq' := hq
    simp only [Bool.and_eq_true, decide_eq_true_eq] at hq'
    have hl := opB_len c
    have hb := opB_ok hq'.1
    refine ⟨_, ctr_fn okr hg25 Tryd.func25 (by kernel_rfl) (by kernel_rfl) (by kernel_rfl) fun C => ?_, h⟩
    rw [e25]
    refine br_t hq ?_
    generalize opB c = B at *
    have hP := drP_lt hb
    have hL := drL_len hb
    have hS := ddtT_size (drL B)
    have hlen : decide (B.length ≤ 1048576) = true := decide_eq_true (by omega)
    have hd : ∀ x : Int, 0 ≤ x → x ≤ 1000 → (okB B && (decide (B.length ≤ 1048576) && (decide (0 ≤ x ∧ x ≤ 1000000) && true))) = true := fun x h0 h1 => by
      rw [hb, hlen, decide_eq_true (show 0 ≤ x ∧ x ≤ 1000000 by omega)]
      rfl
    have hfin : tornD B = match ((ddtT (drL B)).size : Int) == 0 with
      | true => ddtT (drL B)
      | false => match pk B (drP B) 2 == 0 with
        | true => ddtT (drL B)
        | false => (ddtT (drL B)).extract 0 (pk B (drP B + 1) ((ddtT (drL B)).size : Int)).toNat ++ at1 dW (pk B (drP B + 1 + 1) 5).toNat ++ (ddtT (drL B)).extract (IntKind.i64.wrap (pk B (drP B + 1) ((ddtT (drL B)).size : Int) + pk B (drP B + 1 + 1 + 1) 2)).toNat ((ddtT (drL B)).size : Int).toNat := rfl
    rw [hfin]
    have z1 := cutp_size (ddtT (drL B)) 0 (pk B (drP B + 1) ((ddtT (drL B)).size : Int)).toNat
    have z2 := dW_size (pk B (drP B + 1 + 1) 5).toNat
    have z3 := cutp_size (ddtT (drL B)) (IntKind.i64.wrap (pk B (drP B + 1) ((ddtT (drL B)).size : Int) + pk B (drP B + 1 + 1 + 1) 2)).toNat ((ddtT (drL B)).size : Int).toNat
    have hK := fun (h : (1 : Int) ≤ ((ddtT (drL B)).size : Int)) => pk_lt hb (p := drP B + 1) (by omega) (by omega) h
    have h2' := pk_lt hb (p := drP B + 1 + 1 + 1) (by omega) (by omega) (show (1 : Int) ≤ 2 by omega)
    clear hfin
    unfold dW at z2 ⊢
    unfold drL drP at *
    generalize (ddtT (lfL B (lsQ B 0) (lsR B 0).2)).extract 0 (pk B (lfP B (lsQ B 0) (lsR B 0).2 + 1) ((ddtT (lfL B (lsQ B 0) (lsR B 0).2)).size : Int)).toNat = X at *
    generalize at1 [(⟨#[]⟩, ()), (⟨#[48]⟩, ()), (⟨#[46]⟩, ()), (⟨#[32]⟩, ()), (⟨#[49]⟩, ())] (pk B (lfP B (lsQ B 0) (lsR B 0).2 + 1 + 1) 5).toNat = Y at *
    generalize (ddtT (lfL B (lsQ B 0) (lsR B 0).2)).extract (IntKind.i64.wrap (pk B (lfP B (lsQ B 0) (lsR B 0).2 + 1) ((ddtT (lfL B (lsQ B 0) (lsR B 0).2)).size : Int) + pk B (lfP B (lsQ B 0) (lsR B 0).2 + 1 + 1 + 1) 2)).toNat ((ddtT (lfL B (lsQ B 0) (lsR B 0).2)).size : Int).toNat = Z at *
    generalize lfP B (lsQ B 0) (lsR B 0).2 = P at *
    generalize ddtT (lfL B (lsQ B 0) (lsR B 0).2) = T at *
    refine br_t (by rw [hb, hlen]; rfl) (br_yes (by omega) (br_intro (fun h1 => ?_) (fun h1 => br_t (hd P (by omega) (by omega)) (br_intro (fun h2 => ?_) (fun h2 => ?_)))))
    · rw [h1]
    · rw [h1, h2]
    have hT : (T.size : Int) ≠ 0 := by simpa using h1
    have hK := hK (by omega)
    have hw' : IntKind.i64.wrap (pk B (P + 1) (T.size : Int) + pk B (P + 1 + 1 + 1) 2) = pk B (P + 1) (T.size : Int) + pk B (P + 1 + 1 + 1) 2 := wrap_id (by omega) (by omega)
    rw [h1, h2]
    refine br_t (by rw [hb, hlen, decide_eq_true (show 0 ≤ P + 1 ∧ P + 1 ≤ 1000000 by omega), decide_eq_true (show (T.size : Int) ≤ 1000000 by omega)]; rfl) (br_yes (And.intro (Int.le_refl 0) (And.intro hK.1 (Int.le_of_lt hK.2))) (br_t (hd (P + 1 + 1) (by omega) (by omega)) (br_yes (by omega) (br_t (hd (P + 1 + 1 + 1) (by omega) (by omega)) ?_))))
    rw [hw']
    exact br_yes ⟨by omega, by omega, Int.le_refl _⟩ (br_yes (by rw [ByteArray.size_append]; omega) rfl)
  · exact h.elim
def eqP (a c : List (Elem k3)) : Bool := decide (a.length = c.length) && allB a.length fun i => elemEq k3 (a.getD i (edflt k3)) (c.getD i (edflt k3))
def g27 : G1
  | [.rsl [.int .i64, .int .i64, .int .i64] a, .rsl [.int .i64, .int .i64, .int .i64] c], [], k => br (decide (a.length ≤ 1048576)) (k ⟨.val (.bool (eqP a c)), [], []⟩) False
  | _, _, _ => False
noncomputable def E27 : Env := Er.of Tryd.f27
noncomputable def G27 : Gk := gk []
noncomputable def lp27 (n : Nat) : Code := (loopOf n (codeOf Tryd.f27)).getD .skip
noncomputable def ct27 (L : Lp) (R : Option Res → Prop) (n : Nat) : Kt := contOf E27 G27 L n (codeOf Tryd.f27) (endK E27 Tryd.f27.results.toList R)
noncomputable def rk27 (L : Lp) (R : Option Res → Prop) (n : Nat) (N : St → Prop) : Kt := rk (jof E27 (lp27 n)) N (ct27 L R n)
noncomputable def LOOP27 (L : Lp) (R : Option Res → Prop) (n : Nat) (st : St) : Prop := L (lp27 n) st (ct27 L R n)
theorem hg27 : HG Tryd.prog G27 := hg_nil
theorem okf27 : Ok Tryd.prog E27 := okr.of Tryd.f27
theorem e27 (L : Lp) (R : Option Res → Prop) (a c : List (Elem k3)) : (bodyP Er G27 L Tryd.f27 [.rsl k3 a, .rsl k3 c] [] R) = (
    br ((↑a.length : Int) != (↑c.length : Int)) (R (some { av := vB false, obs := [], outs := [] })) (LOOP27 L R 4 { tm := [AV.rsl k3 a, AV.rsl k3 c, vJ, vJ, vJ, vI 0, vJ, vJ, vJ, vJ, vJ, vJ, vJ, vJ, vJ, vJ, vJ, vJ, vJ, vJ, vJ, vJ, vJ, vJ, vJ, vJ], ob := [], nx := 1000000, ps := [] })) := by kernel_rfl
def st27 (a c : List (Elem k3)) (i : Int) : St :=  ⟨[AV.rsl k3 a, AV.rsl k3 c, vJ, vJ, vJ, .val (.int .i64 i), vJ, vJ, vJ, vJ, vJ, vJ, vJ, vJ, vJ, vJ, vJ, vJ, vJ, vJ, vJ, vJ, vJ, vJ, vJ, vJ], [], 1000000, []⟩
theorem b27 (L : Lp) (R : Option Res → Prop) (N : St → Prop) (a c : List (Elem k3)) (i : Int) : (evP E27 G27 L (lp27 4) (st27 a c i) (rk27 L R 4 N)) = (
    br (decide (i < (↑a.length : Int))) (br (decide (0 ≤ i ∧ i < (↑a.length : Int))) (br (decide (0 ≤ i ∧ i < (↑c.length : Int))) (br (!elemEq k3 (a.getD i.toNat (edflt k3)) (c.getD i.toNat (edflt k3))) (R (some { av := vB false, obs := [], outs := [] })) (N { tm := [AV.rsl k3 a, AV.rsl k3 c, vJ, vJ, vJ, vI (IntKind.i64.wrap (i + 1)), vJ, vJ, vJ, vJ, vJ, vJ, vJ, vJ, vJ, vJ, vJ, vJ, vJ, vJ, vJ, vJ, vJ, vJ, vJ, vJ], ob := [], nx := 1000000, ps := [] })) False) False) (R (some { av := vB true, obs := [], outs := [] }))) := by kernel_rfl
theorem h27 : G1Ok Tryd.prog 27 g27 := by
  intro args obs k h
  unfold g27 at h
  split at h
  · rename_i k a c
    obtain ⟨hl, h⟩ := brd h
    refine ⟨_, ctr_fn okr hg27 Tryd.func27 (by kernel_rfl) (by kernel_rfl) (by kernel_rfl) fun C => ?_, h⟩
    rw [e27]
    unfold eqP
    refine br_bne (fun h1 => ?_) (fun h1 => ?_)
    · rw [decide_eq_false (fun e : a.length = c.length => by rw [e] at h1; simp at h1)]
      rfl
    · have he : a.length = c.length := by have := eq_of_beq h1; omega
      rw [decide_eq_true he]
      refine loopAll okf27 hg27 (fun i => st27 a c i) a.length (fun i => elemEq k3 (a.getD i (edflt k3)) (c.getD i (edflt k3))) (by omega) fun N i hi hw next fails done => ?_
      show evP E27 G27 _ (lp27 4) (st27 a c i) (rk27 _ _ 4 _)
      rw [b27, hw, Int.toNat_natCast]
      refine br_dec (fun h2 => br_yes ⟨by omega, h2⟩ (br_yes ⟨by omega, by omega⟩ (br_not (fun h3 => ?_) (fun h3 => ?_)))) (fun h2 => ?_)
      · show _ = _
        rw [fails (by omega) h3]
        rfl
      · exact next (by omega) h3
      · show _ = _
        rw [done (by omega)]
        rfl
  · exact h.elim
theorem eqP_self (a : List (Elem k3)) : eqP a a = true := by
  unfold eqP
  rw [decide_eq_true rfl, Bool.true_and]
  exact allB_t fun i hi => by simp [elemEq, ckEq]
end Go.Proofs.YtkjnijddbiconaaDoor.Ev
