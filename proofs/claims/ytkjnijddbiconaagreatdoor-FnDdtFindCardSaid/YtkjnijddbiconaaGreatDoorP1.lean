/- The law of FnDdtParts: what is drawn. -/
import Derived.Test.YtkjnijddbiconaaGreatDoorL3
import Derived.Test.YtkjnijddbiconaaGreatDoorW5
namespace Go.Proofs.YtkjnijddbiconaaGreatDoor.Ev
open Go
set_option linter.unusedVariables false
set_option linter.unusedSimpArgs false
set_option maxRecDepth 100000
def drL (B : List (Elem ku)) : List (Elem k3) := lfL B (lsQ B 0) (lsR B 0).2
def drP (B : List (Elem ku)) : Int := lfP B (lsQ B 0) (lsR B 0).2
theorem lsQ_lt {B : List (Elem ku)} (hb : okB B = true) : 0 ≤ lsQ B 0 ∧ lsQ B 0 ≤ 20 := by
  have := pk_lt hb (p := 0) (by omega) (by omega) (show (1 : Int) ≤ 8 by omega)
  unfold lsQ
  omega
theorem lsR_ok {B : List (Elem ku)} (hb : okB B = true) : dkOk z12 z12 (lsR B 0).1 = true ∧ (lsR B 0).1.length ≤ 16 ∧ (lsR B 0).2.length ≤ 8 := by
  have h116 := pk_lt hb (p := 0) (by omega) (by omega) (show (1 : Int) ≤ 8 by omega)
  have := ls_ok hb (p := 0 + 1) (by omega) (by omega) (pk B 0 8).toNat (by omega)
  unfold lsR
  exact ⟨this.1, by omega, by omega⟩
theorem lfL_len (b : List (Elem ku)) (p : Int) (l : List (Elem k3)) : (lfL b p l).length ≤ l.length + 1 := by
  unfold lfL
  repeat' split
  all_goals simp
theorem drL_len {B : List (Elem ku)} (hb : okB B = true) : (drL B).length ≤ 9 := by
  have h1 := lfL_len B (lsQ B 0) (lsR B 0).2
  have h2 := (lsR_ok hb).2.2
  unfold drL
  omega
theorem drP_lt {B : List (Elem ku)} (hb : okB B = true) : 0 ≤ drP B ∧ drP B ≤ 23 := by
  have h := lsQ_lt hb
  unfold drP lfP
  repeat' split
  all_goals omega
theorem joinW_len (c : UInt8) (m : Nat) : ∀ (ws : List (List UInt8)), (∀ w ∈ ws, w.length ≤ m) → (joinW c ws).length ≤ ws.length * (m + 1)
  | [], _ => Nat.zero_le _
  | [w], h => by
    have := h w (by simp)
    show w.length ≤ 1 * (m + 1)
    omega
  | w :: v :: ws, h => by
    have ih := joinW_len c m (v :: ws) (fun x hx => h x (List.mem_cons_of_mem _ hx))
    have h1 := h w (by simp)
    show (w ++ c :: joinW c (v :: ws)).length ≤ (w :: v :: ws).length * (m + 1)
    rw [List.length_append, List.length_cons, List.length_cons (a := w), Nat.add_mul]
    omega
theorem dec_short {n : Int} (h : 0 ≤ n ∧ n ≤ 65520) : (dec n).size ≤ 5 := by
  have e : (dec n).size = (decD n.toNat).length := by rw [← dec_data h.1]; rfl
  have := decD_short 4 n.toNat (by omega)
  omega
theorem entT_size {e : Elem k3} (ha : 0 ≤ e.1 ∧ e.1 ≤ 65520) (hb : 0 ≤ e.2.1 ∧ e.2.1 ≤ 65520) (hc : 0 ≤ e.2.2.1 ∧ e.2.2.1 ≤ 65520) : 2 ≤ (entT e).size ∧ (entT e).size ≤ 17 := by
  have h1 := dec_short ha
  have h2 := dec_short hb
  have h3 := dec_short hc
  have h112 : (⟨#[46]⟩ : ByteArray).size = 1 := rfl
  unfold entT
  rw [ByteArray.size_append, ByteArray.size_append, ByteArray.size_append, ByteArray.size_append]
  omega
theorem entS_size {L : List (Elem k3)} (hd : ddtOk L = true) : ∀ e ∈ entS L, 2 ≤ e.1.size ∧ e.1.size ≤ 17 := by
  intro e he
  unfold entS at he
  obtain ⟨x, hx, rfl⟩ := List.mem_map.1 he
  obtain ⟨j, hj, rfl⟩ := List.getElem_of_mem hx
  obtain ⟨a, b, c⟩ := ddtOk_ent hd hj
  rw [List.getD_eq_getElem?_getD, List.getElem?_eq_getElem hj] at a b c
  exact entT_size a b c
theorem ddtT_size (L : List (Elem k3)) : (ddtT L).size ≤ 864 := by
  unfold ddtT
  split
  · rename_i hd
    have h119 := ddtOk_len hd
    have e : (joinT (entS L) ⟨#[32]⟩).size = (joinT (entS L) ⟨#[32]⟩).data.toList.length := rfl
    rw [e, joinT_data]
    have := joinW_len 32 17 (txt (entS L)) (fun w hw => by
      unfold txt at hw
      obtain ⟨x, hx, rfl⟩ := List.mem_map.1 hw
      exact (entS_size hd x hx).2)
    have hl : (txt (entS L)).length = L.length := by unfold txt entS; simp
    omega
  · exact Nat.zero_le _
def eqP (a c : List (Elem k3)) : Bool := decide (a.length = c.length) && allB a.length fun i => elemEq k3 (a.getD i (edflt k3)) (c.getD i (edflt k3))
def g47 : G1
  | [.rsl [.int .i64, .int .i64, .int .i64] a, .rsl [.int .i64, .int .i64, .int .i64] c], [], k => br (decide (a.length ≤ 1048576)) (k ⟨.val (.bool (eqP a c)), [], []⟩) False
  | _, _, _ => False
noncomputable def E47 : Env := Er.of Tryz.f47
noncomputable def G47 : Gk := gk []
noncomputable def lp47 (n : Nat) : Code := (loopOf n (codeOf Tryz.f47)).getD .skip
noncomputable def ct47 (L : Lp) (R : Option Res → Prop) (n : Nat) : Kt := contOf E47 G47 L n (codeOf Tryz.f47) (endK E47 Tryz.f47.results.toList R)
noncomputable def rk47 (L : Lp) (R : Option Res → Prop) (n : Nat) (N : St → Prop) : Kt := rk (jof E47 (lp47 n)) N (ct47 L R n)
noncomputable def LOOP47 (L : Lp) (R : Option Res → Prop) (n : Nat) (st : St) : Prop := L (lp47 n) st (ct47 L R n)
theorem hg47 : HG Tryz.prog G47 := hg_nil
theorem okf47 : Ok Tryz.prog E47 := okr.of Tryz.f47
theorem e47 (L : Lp) (R : Option Res → Prop) (a c : List (Elem k3)) : (bodyP Er G47 L Tryz.f47 [.rsl k3 a, .rsl k3 c] [] R) = (
    br ((↑a.length : Int) != (↑c.length : Int)) (R (some { av := vB false, obs := [], outs := [] })) (LOOP47 L R 4 { tm := [AV.rsl k3 a, AV.rsl k3 c, vJ, vJ, vJ, vI 0, vJ, vJ, vJ, vJ, vJ, vJ, vJ, vJ, vJ, vJ, vJ, vJ, vJ, vJ, vJ, vJ, vJ, vJ, vJ, vJ], ob := [], nx := 1000000, ps := [] })) := by kernel_rfl
def st47 (a c : List (Elem k3)) (i : Int) : St :=  ⟨[AV.rsl k3 a, AV.rsl k3 c, vJ, vJ, vJ, .val (.int .i64 i), vJ, vJ, vJ, vJ, vJ, vJ, vJ, vJ, vJ, vJ, vJ, vJ, vJ, vJ, vJ, vJ, vJ, vJ, vJ, vJ], [], 1000000, []⟩
theorem b47 (L : Lp) (R : Option Res → Prop) (N : St → Prop) (a c : List (Elem k3)) (i : Int) : (evP E47 G47 L (lp47 4) (st47 a c i) (rk47 L R 4 N)) = (
    br (decide (i < (↑a.length : Int))) (br (decide (0 ≤ i ∧ i < (↑a.length : Int))) (br (decide (0 ≤ i ∧ i < (↑c.length : Int))) (br (!elemEq k3 (a.getD i.toNat (edflt k3)) (c.getD i.toNat (edflt k3))) (R (some { av := vB false, obs := [], outs := [] })) (N { tm := [AV.rsl k3 a, AV.rsl k3 c, vJ, vJ, vJ, vI (IntKind.i64.wrap (i + 1)), vJ, vJ, vJ, vJ, vJ, vJ, vJ, vJ, vJ, vJ, vJ, vJ, vJ, vJ, vJ, vJ, vJ, vJ, vJ, vJ], ob := [], nx := 1000000, ps := [] })) False) False) (R (some { av := vB true, obs := [], outs := [] }))) := by kernel_rfl
theorem h47 : G1Ok Tryz.prog 47 g47 := by
  intro args obs k h
  unfold g47 at h
  split at h
  · rename_i k a c
    obtain ⟨hl, h⟩ := brd h
    refine ⟨_, ctr_fn okr hg47 Tryz.func47 (by kernel_rfl) (by kernel_rfl) (by kernel_rfl) fun C => ?_, h⟩
    rw [e47]
    unfold eqP
    refine br_bne (fun h1 => ?_) (fun h1 => ?_)
    · rw [decide_eq_false (fun e : a.length = c.length => by rw [e] at h1; simp at h1)]
      rfl
    · have he : a.length = c.length := by have := eq_of_beq h1; omega
      rw [decide_eq_true he]
      refine loopAll okf47 hg47 (fun i => st47 a c i) a.length (fun i => elemEq k3 (a.getD i (edflt k3)) (c.getD i (edflt k3))) (by omega) fun N i hi hw next fails done => ?_
      show evP E47 G47 _ (lp47 4) (st47 a c i) (rk47 _ _ 4 _)
      rw [b47, hw, Int.toNat_natCast]
      refine br_dec (fun h2 => br_yes ⟨by omega, h2⟩ (br_yes ⟨by omega, by omega⟩ (br_not (fun h3 => ?_) (fun h3 => ?_)))) (fun h2 => ?_)
      · show _ = _
        rw [fails (by omega) h3]
        rfl
      · exact next (by omega) h3
      · show _ = _
        rw [done (by omega)]
        rfl
  · exact h.elim
theorem eqP_self (a : List (Elem k3)) : eqP a a = true := by
  unfold eqP
  rw [decide_eq_true rfl, Bool.true_and]
  exact allB_t fun i hi => by simp [elemEq, ckEq]
end Go.Proofs.YtkjnijddbiconaaGreatDoor.Ev
