/- The law of FnDdtCount: what is drawn. -/
import Derived.Test.YtkjnijddbiconaaL3
import Derived.Test.YtkjnijddbiconaaM1
namespace Go.Proofs.Ytkjnijddbiconaa.Ev
open Go
set_option linter.unusedVariables false
set_option linter.unusedSimpArgs false
set_option maxRecDepth 100000
def drL (B : List (Elem ku)) : List (Elem k3) := lfL B (lsQ B 0) (lsR B 0).2
def drP (B : List (Elem ku)) : Int := lfP B (lsQ B 0) (lsR B 0).2
def drX (B : List (Elem ku)) : Bool := decide (((drL B).length : Int) > 0) && (pk B (drP B + 1 + 1) 2 == 0)
def drK (B : List (Elem ku)) : Nat := (pk B (drP B + 1 + 1 + 1) ((drL B).length : Int)).toNat
def drS (B : List (Elem ku)) : Int := match drX B with
  | true => (at3 (drL B) (drK B)).1
  | false => (([(635, ()), (636, ()), (5, ()), (-1, ()), (65521, ())] : List (Elem ki)).getD (pk B (drP B + 1) 5).toNat (edflt ki)).1
def drA (B : List (Elem ku)) : Int := match drX B with
  | true => (at3 (drL B) (drK B)).2.1
  | false => (([(0, ()), (1, ()), (3, ()), (5, ()), (7, ()), (119, ()), (120, ())] : List (Elem ki)).getD (pk B (drP B) 7).toNat (edflt ki)).1
def g15 : G1
  | [.rsl [.int .u8] c], [], k => br (okB c && decide (c.length ≤ 1048576)) (k ⟨.tup [.ows 0, .val (.int .i64 (drS (opB c))), .val (.int .i64 (drA (opB c)))], [.row k3 (drL (opB c))], []⟩) False
  | _, _, _ => False
noncomputable def E15 : Env := Er.of Try.f15
noncomputable def G15 : Gk := gk [(27, g27), (28, g28), (29, g29), (31, g31), (30, g30)]
noncomputable def lp15 (n : Nat) : Code := (loopOf n (codeOf Try.f15)).getD .skip
noncomputable def ct15 (L : Lp) (R : Option Res → Prop) (n : Nat) : Kt := contOf E15 G15 L n (codeOf Try.f15) (endK E15 Try.f15.results.toList R)
noncomputable def rk15 (L : Lp) (R : Option Res → Prop) (n : Nat) (N : St → Prop) : Kt := rk (jof E15 (lp15 n)) N (ct15 L R n)
noncomputable def rkn15 (L : Lp) (R : Option Res → Prop) (n : Nat) (N : St → Prop) (m : Nat) (N2 : St → Prop) : Kt := rk (jof E15 (lp15 m)) N2 (contOf E15 G15 L m (lp15 n) (rk15 L R n N))
noncomputable def LOOPN15 (L : Lp) (R : Option Res → Prop) (n : Nat) (N : St → Prop) (m : Nat) (st : St) : Prop := L (lp15 m) st (contOf E15 G15 L m (lp15 n) (rk15 L R n N))
noncomputable def LOOP15 (L : Lp) (R : Option Res → Prop) (n : Nat) (st : St) : Prop := L (lp15 n) st (ct15 L R n)
theorem hg15 : HG Try.prog G15 := (hg_cons h27 (hg_cons h28 (hg_cons h29 (hg_cons h31 (hg_cons h30 hg_nil)))))
theorem okf15 : Ok Try.prog E15 := okr.of Try.f15
theorem e15 (L : Lp) (R : Option Res → Prop) (c : List (Elem [.int .u8])) : (bodyP Er G15 L Try.f15 [.rsl [.int .u8] c] [] R) = (
    br (okB c && decide (c.length ≤ 1048576)) (br (okB (opB c) && (decide ((opB c).length ≤ 1048576) && true)) (br (okB (opB c) && (decide ((opB c).length ≤ 1048576) && (decide (0 ≤ lfP (opB c) (lsQ (opB c) 0) (lsR (opB c) 0).snd ∧ lfP (opB c) (lsQ (opB c) 0) (lsR (opB c) 0).snd ≤ 1000000) && true))) (br (okB (opB c) && (decide ((opB c).length ≤ 1048576) && (decide (0 ≤ lfP (opB c) (lsQ (opB c) 0) (lsR (opB c) 0).snd + 1 ∧ lfP (opB c) (lsQ (opB c) 0) (lsR (opB c) 0).snd + 1 ≤ 1000000) && true))) (br (decide ((↑(lfL (opB c) (lsQ (opB c) 0) (lsR (opB c) 0).snd).length : Int) > 0)) (br (okB (opB c) && (decide ((opB c).length ≤ 1048576) && (decide (0 ≤ lfP (opB c) (lsQ (opB c) 0) (lsR (opB c) 0).snd + 1 + 1 ∧ lfP (opB c) (lsQ (opB c) 0) (lsR (opB c) 0).snd + 1 + 1 ≤ 1000000) && true))) (br (pk (opB c) (lfP (opB c) (lsQ (opB c) 0) (lsR (opB c) 0).snd + 1 + 1) 2 == 0) (br (okB (opB c) && (decide ((opB c).length ≤ 1048576) && (decide (0 ≤ lfP (opB c) (lsQ (opB c) 0) (lsR (opB c) 0).snd + 1 + 1 + 1 ∧ lfP (opB c) (lsQ (opB c) 0) (lsR (opB c) 0).snd + 1 + 1 + 1 ≤ 1000000) && decide ((↑(lfL (opB c) (lsQ (opB c) 0) (lsR (opB c) 0).snd).length : Int) ≤ 1000000)))) (br (decide (0 ≤ pk (opB c) (lfP (opB c) (lsQ (opB c) 0) (lsR (opB c) 0).snd + 1 + 1 + 1) (↑(lfL (opB c) (lsQ (opB c) 0) (lsR (opB c) 0).snd).length : Int) ∧ pk (opB c) (lfP (opB c) (lsQ (opB c) 0) (lsR (opB c) 0).snd + 1 + 1 + 1) (↑(lfL (opB c) (lsQ (opB c) 0) (lsR (opB c) 0).snd).length : Int) < (↑(lfL (opB c) (lsQ (opB c) 0) (lsR (opB c) 0).snd).length : Int))) (br (decide (0 ≤ pk (opB c) (lfP (opB c) (lsQ (opB c) 0) (lsR (opB c) 0).snd + 1 + 1 + 1) (↑(lfL (opB c) (lsQ (opB c) 0) (lsR (opB c) 0).snd).length : Int) ∧ pk (opB c) (lfP (opB c) (lsQ (opB c) 0) (lsR (opB c) 0).snd + 1 + 1 + 1) (↑(lfL (opB c) (lsQ (opB c) 0) (lsR (opB c) 0).snd).length : Int) < (↑(lfL (opB c) (lsQ (opB c) 0) (lsR (opB c) 0).snd).length : Int))) (R (some { av := AV.tup [AV.ows 0, vI ((lfL (opB c) (lsQ (opB c) 0) (lsR (opB c) 0).snd).getD (pk (opB c) (lfP (opB c) (lsQ (opB c) 0) (lsR (opB c) 0).snd + 1 + 1 + 1) (↑(lfL (opB c) (lsQ (opB c) 0) (lsR (opB c) 0).snd).length : Int)).toNat (edflt k3)).fst, vI ((lfL (opB c) (lsQ (opB c) 0) (lsR (opB c) 0).snd).getD (pk (opB c) (lfP (opB c) (lsQ (opB c) 0) (lsR (opB c) 0).snd + 1 + 1 + 1) (↑(lfL (opB c) (lsQ (opB c) 0) (lsR (opB c) 0).snd).length : Int)).toNat (edflt k3)).snd.fst], obs := [AO.row k3 (lfL (opB c) (lsQ (opB c) 0) (lsR (opB c) 0).snd)], outs := [] })) False) False) False) (R (some { av := AV.tup [AV.ows 0, vI ([(635, ()), (636, ()), (5, ()), (-1, ()), (65521, ())].getD (pk (opB c) (lfP (opB c) (lsQ (opB c) 0) (lsR (opB c) 0).snd + 1) 5).toNat (edflt ki)).fst, vI ([(0, ()), (1, ()), (3, ()), (5, ()), (7, ()), (119, ()), (120, ())].getD (pk (opB c) (lfP (opB c) (lsQ (opB c) 0) (lsR (opB c) 0).snd) 7).toNat (edflt ki)).fst], obs := [AO.row k3 (lfL (opB c) (lsQ (opB c) 0) (lsR (opB c) 0).snd)], outs := [] }))) False) (R (some { av := AV.tup [AV.ows 0, vI ([(635, ()), (636, ()), (5, ()), (-1, ()), (65521, ())].getD (pk (opB c) (lfP (opB c) (lsQ (opB c) 0) (lsR (opB c) 0).snd + 1) 5).toNat (edflt ki)).fst, vI ([(0, ()), (1, ()), (3, ()), (5, ()), (7, ()), (119, ()), (120, ())].getD (pk (opB c) (lfP (opB c) (lsQ (opB c) 0) (lsR (opB c) 0).snd) 7).toNat (edflt ki)).fst], obs := [AO.row k3 (lfL (opB c) (lsQ (opB c) 0) (lsR (opB c) 0).snd)], outs := [] }))) False) False) False) False) := by kernel_rfl
theorem lsQ_lt {B : List (Elem ku)} (hb : okB B = true) : 0 ≤ lsQ B 0 ∧ lsQ B 0 ≤ 20 := by
  have := pk_lt hb (p := 0) (by omega) (by omega) (show (1 : Int) ≤ 8 by omega)
  unfold lsQ
  omega
theorem lsR_ok {B : List (Elem ku)} (hb : okB B = true) : dkOk z12 z12 (lsR B 0).1 = true ∧ (lsR B 0).1.length ≤ 16 ∧ (lsR B 0).2.length ≤ 8 := by
  have h8 := pk_lt hb (p := 0) (by omega) (by omega) (show (1 : Int) ≤ 8 by omega)
  have := ls_ok hb (p := 0 + 1) (by omega) (by omega) (pk B 0 8).toNat (by omega)
  unfold lsR
  exact ⟨this.1, by omega, by omega⟩
theorem lfL_len (b : List (Elem ku)) (p : Int) (l : List (Elem k3)) : (lfL b p l).length ≤ l.length + 1 := by
  unfold lfL
  repeat' split
  all_goals simp
theorem drL_len {B : List (Elem ku)} (hb : okB B = true) : (drL B).length ≤ 9 := by
  have h1 := lfL_len B (lsQ B 0) (lsR B 0).2
  have h2 := (lsR_ok hb).2.2
  unfold drL
  omega
theorem drP_lt {B : List (Elem ku)} (hb : okB B = true) : 0 ≤ drP B ∧ drP B ≤ 23 := by
  have h := lsQ_lt hb
  unfold drP lfP
  repeat' split
  all_goals omega
theorem h15 : G1Ok Try.prog 15 g15 := by
  intro args obs k h
  unfold g15 at h
  split at h
  · rename_i k c
    obtain ⟨hq, h⟩ := br_and h
    have hq' := hq
    simp only [Bool.and_eq_true, decide_eq_true_eq] at hq'
    have hl := opB_len c
    have hb := opB_ok hq'.1
    have hL := drL_len hb
    have hP := drP_lt hb
    refine ⟨_, ctr_fn okr hg15 Try.func15 (by kernel_rfl) (by kernel_rfl) (by kernel_rfl) fun C => ?_, h⟩
    rw [e15]
    have eS : drS (opB c) = match drX (opB c) with
      | true => (at3 (drL (opB c)) (drK (opB c))).1
      | false => (([(635, ()), (636, ()), (5, ()), (-1, ()), (65521, ())] : List (Elem ki)).getD (pk (opB c) (drP (opB c) + 1) 5).toNat (edflt ki)).1 := rfl
    have eA : drA (opB c) = match drX (opB c) with
      | true => (at3 (drL (opB c)) (drK (opB c))).2.1
      | false => (([(0, ()), (1, ()), (3, ()), (5, ()), (7, ()), (119, ()), (120, ())] : List (Elem ki)).getD (pk (opB c) (drP (opB c)) 7).toNat (edflt ki)).1 := rfl
    have eX : drX (opB c) = (decide (((drL (opB c)).length : Int) > 0) && (pk (opB c) (drP (opB c) + 1 + 1) 2 == 0)) := rfl
    have eK : drK (opB c) = (pk (opB c) (drP (opB c) + 1 + 1 + 1) ((drL (opB c)).length : Int)).toNat := rfl
    show br _ (br _ (br (okB (opB c) && (decide ((opB c).length ≤ 1048576) && (decide (0 ≤ drP (opB c) ∧ drP (opB c) ≤ 1000000) && true))) (br (okB (opB c) && (decide ((opB c).length ≤ 1048576) && (decide (0 ≤ drP (opB c) + 1 ∧ drP (opB c) + 1 ≤ 1000000) && true))) (br (decide (((drL (opB c)).length : Int) > 0)) (br (okB (opB c) && (decide ((opB c).length ≤ 1048576) && (decide (0 ≤ drP (opB c) + 1 + 1 ∧ drP (opB c) + 1 + 1 ≤ 1000000) && true))) (br (pk (opB c) (drP (opB c) + 1 + 1) 2 == 0) (br (okB (opB c) && (decide ((opB c).length ≤ 1048576) && (decide (0 ≤ drP (opB c) + 1 + 1 + 1 ∧ drP (opB c) + 1 + 1 + 1 ≤ 1000000) && decide (((drL (opB c)).length : Int) ≤ 1000000)))) (br (decide (0 ≤ pk (opB c) (drP (opB c) + 1 + 1 + 1) ((drL (opB c)).length : Int) ∧ pk (opB c) (drP (opB c) + 1 + 1 + 1) ((drL (opB c)).length : Int) < ((drL (opB c)).length : Int))) _ _) _) _) _) _) _) _) _) _
    have hlen : decide ((opB c).length ≤ 1048576) = true := decide_eq_true (by omega)
    have hd : ∀ x : Int, 0 ≤ x → x ≤ 1000000 → (okB (opB c) && (decide ((opB c).length ≤ 1048576) && (decide (0 ≤ x ∧ x ≤ 1000000) && true))) = true := fun x h0 h1 => by
      rw [hb, hlen, decide_eq_true (And.intro h0 h1)]
      rfl
    refine br_t hq (br_t (by rw [hb, hlen]; rfl) (br_t (hd _ (by omega) (by omega)) (br_t (hd _ (by omega) (by omega)) (br_intro (fun h1 => br_t (hd _ (by omega) (by omega)) (br_intro (fun h2 => ?_) (fun h2 => ?_))) (fun h1 => ?_)))))
    · have hX : drX (opB c) = true := by rw [eX, h1, h2]; rfl
      have h1' := of_decide_eq_true h1
      have hk := pk_lt hb (p := drP (opB c) + 1 + 1 + 1) (n := ((drL (opB c)).length : Int)) (by omega) (by omega) (by omega)
      refine br_t (by rw [hb, hlen, decide_eq_true (show 0 ≤ drP (opB c) + 1 + 1 + 1 ∧ drP (opB c) + 1 + 1 + 1 ≤ 1000000 by omega), decide_eq_true (show ((drL (opB c)).length : Int) ≤ 1000000 by omega)]; rfl) (br_yes hk (br_yes hk ?_))
      rw [eS, eA, hX]
      rfl
    · have hX : drX (opB c) = false := by rw [eX, h1, h2]; rfl
      rw [eS, eA, hX]
      rfl
    · have hX : drX (opB c) = false := by rw [eX, h1]; rfl
      rw [eS, eA, hX]
      rfl
  · exact h.elim
def eqP (a c : List (Elem k3)) : Bool := decide (a.length = c.length) && allB a.length fun i => elemEq k3 (a.getD i (edflt k3)) (c.getD i (edflt k3))
def g16 : G1
  | [.rsl [.int .i64, .int .i64, .int .i64] a, .rsl [.int .i64, .int .i64, .int .i64] c], [], k => br (decide (a.length ≤ 1048576)) (k ⟨.val (.bool (eqP a c)), [], []⟩) False
  | _, _, _ => False
noncomputable def E16 : Env := Er.of Try.f16
noncomputable def G16 : Gk := gk []
noncomputable def lp16 (n : Nat) : Code := (loopOf n (codeOf Try.f16)).getD .skip
noncomputable def ct16 (L : Lp) (R : Option Res → Prop) (n : Nat) : Kt := contOf E16 G16 L n (codeOf Try.f16) (endK E16 Try.f16.results.toList R)
noncomputable def rk16 (L : Lp) (R : Option Res → Prop) (n : Nat) (N : St → Prop) : Kt := rk (jof E16 (lp16 n)) N (ct16 L R n)
noncomputable def rkn16 (L : Lp) (R : Option Res → Prop) (n : Nat) (N : St → Prop) (m : Nat) (N2 : St → Prop) : Kt := rk (jof E16 (lp16 m)) N2 (contOf E16 G16 L m (lp16 n) (rk16 L R n N))
noncomputable def LOOPN16 (L : Lp) (R : Option Res → Prop) (n : Nat) (N : St → Prop) (m : Nat) (st : St) : Prop := L (lp16 m) st (contOf E16 G16 L m (lp16 n) (rk16 L R n N))
noncomputable def LOOP16 (L : Lp) (R : Option Res → Prop) (n : Nat) (st : St) : Prop := L (lp16 n) st (ct16 L R n)
theorem hg16 : HG Try.prog G16 := hg_nil
theorem okf16 : Ok Try.prog E16 := okr.of Try.f16
theorem e16 (L : Lp) (R : Option Res → Prop) (a c : List (Elem k3)) : (bodyP Er G16 L Try.f16 [.rsl k3 a, .rsl k3 c] [] R) = (
    br ((↑a.length : Int) != (↑c.length : Int)) (R (some { av := vB false, obs := [], outs := [] })) (LOOP16 L R 4 { tm := [AV.rsl k3 a, AV.rsl k3 c, vJ, vJ, vJ, vI 0, vJ, vJ, vJ, vJ, vJ, vJ, vJ, vJ, vJ, vJ, vJ, vJ, vJ, vJ, vJ, vJ, vJ, vJ, vJ, vJ], ob := [], nx := 1000000, ps := [] })) := by kernel_rfl
def st16 (a c : List (Elem k3)) (i : Int) : St :=  ⟨[AV.rsl k3 a, AV.rsl k3 c, vJ, vJ, vJ, .val (.int .i64 i), vJ, vJ, vJ, vJ, vJ, vJ, vJ, vJ, vJ, vJ, vJ, vJ, vJ, vJ, vJ, vJ, vJ, vJ, vJ, vJ], [], 1000000, []⟩
theorem b16 (L : Lp) (R : Option Res → Prop) (N : St → Prop) (a c : List (Elem k3)) (i : Int) : (evP E16 G16 L (lp16 4) (st16 a c i) (rk16 L R 4 N)) = (
    br (decide (i < (↑a.length : Int))) (br (decide (0 ≤ i ∧ i < (↑a.length : Int))) (br (decide (0 ≤ i ∧ i < (↑c.length : Int))) (br (!elemEq k3 (a.getD i.toNat (edflt k3)) (c.getD i.toNat (edflt k3))) (R (some { av := vB false, obs := [], outs := [] })) (N { tm := [AV.rsl k3 a, AV.rsl k3 c, vJ, vJ, vJ, vI (IntKind.i64.wrap (i + 1)), vJ, vJ, vJ, vJ, vJ, vJ, vJ, vJ, vJ, vJ, vJ, vJ, vJ, vJ, vJ, vJ, vJ, vJ, vJ, vJ], ob := [], nx := 1000000, ps := [] })) False) False) (R (some { av := vB true, obs := [], outs := [] }))) := by kernel_rfl
theorem h16 : G1Ok Try.prog 16 g16 := by
  intro args obs k h
  unfold g16 at h
  split at h
  · rename_i k a c
    obtain ⟨hl, h⟩ := brd h
    refine ⟨_, ctr_fn okr hg16 Try.func16 (by kernel_rfl) (by kernel_rfl) (by kernel_rfl) fun C => ?_, h⟩
    rw [e16]
    unfold eqP
    refine br_bne (fun h1 => ?_) (fun h1 => ?_)
    · rw [decide_eq_false (fun e : a.length = c.length => by rw [e] at h1; simp at h1)]
      rfl
    · have he : a.length = c.length := by have := eq_of_beq h1; omega
      rw [decide_eq_true he]
      refine loopAll okf16 hg16 (fun i => st16 a c i) a.length (fun i => elemEq k3 (a.getD i (edflt k3)) (c.getD i (edflt k3))) (by omega) fun N i hi hw next fails done => ?_
      show evP E16 G16 _ (lp16 4) (st16 a c i) (rk16 _ _ 4 _)
      rw [b16, hw, Int.toNat_natCast]
      refine br_dec (fun h2 => br_yes ⟨by omega, h2⟩ (br_yes ⟨by omega, by omega⟩ (br_not (fun h3 => ?_) (fun h3 => ?_)))) (fun h2 => ?_)
      · show _ = _
        rw [fails (by omega) h3]
        rfl
      · exact next (by omega) h3
      · show _ = _
        rw [done (by omega)]
        rfl
  · exact h.elim
theorem eqP_self (a : List (Elem k3)) : eqP a a = true := by
  unfold eqP
  rw [decide_eq_true rfl, Bool.true_and]
  exact allB_t fun i hi => by simp [elemEq, ckEq]
def g5 : G1
  | _, _, _ => False
noncomputable def E5 : Env := Ef.of Try.f5
noncomputable def G5 : Gk := gk [(15, g15), (14, g14), (13, g13), (16, g16), (17, g17), (18, g17), (9, g9), (19, g19)]
noncomputable def lp5 (n : Nat) : Code := (loopOf n (codeOf Try.f5)).getD .skip
noncomputable def ct5 (L : Lp) (R : Option Res → Prop) (n : Nat) : Kt := contOf E5 G5 L n (codeOf Try.f5) (endK E5 Try.f5.results.toList R)
noncomputable def rk5 (L : Lp) (R : Option Res → Prop) (n : Nat) (N : St → Prop) : Kt := rk (jof E5 (lp5 n)) N (ct5 L R n)
noncomputable def rkn5 (L : Lp) (R : Option Res → Prop) (n : Nat) (N : St → Prop) (m : Nat) (N2 : St → Prop) : Kt := rk (jof E5 (lp5 m)) N2 (contOf E5 G5 L m (lp5 n) (rk5 L R n N))
noncomputable def LOOPN5 (L : Lp) (R : Option Res → Prop) (n : Nat) (N : St → Prop) (m : Nat) (st : St) : Prop := L (lp5 m) st (contOf E5 G5 L m (lp5 n) (rk5 L R n N))
noncomputable def LOOP5 (L : Lp) (R : Option Res → Prop) (n : Nat) (st : St) : Prop := L (lp5 n) st (ct5 L R n)
theorem hg5 : HG Try.prog G5 := (hg_cons h15 (hg_cons h14 (hg_cons h13 (hg_cons h16 (hg_cons h17 (hg_cons h18 (hg_cons h9 (hg_cons h19 hg_nil))))))))
theorem okf5 : Ok Try.prog E5 := okf.of Try.f5
theorem e5 (L : Lp) (R : Option Res → Prop) (c : List (Elem [.int .u8])) : (bodyP Ef G5 L Try.f5 [.rsl [.int .u8] c] [] R) = (
    br (decide ((↑c.length : Int) > 1048576)) (R (some { av := vB true, obs := [], outs := [] })) (br (okB c && decide (c.length ≤ 1048576)) (br (decide ((drL (opB c)).length ≤ 1048576)) (br (decide ((drL (opB c)).length ≤ 1048576)) (br (!(daJ (drL (opB c)) (drS (opB c)) (drA (opB c))).snd == (daR (drL (opB c)) (drS (opB c)) (drA (opB c))).snd) (R (some { av := vB false, obs := [], outs := [] })) (br (decide ((daJ (drL (opB c)) (drS (opB c)) (drA (opB c))).fst.length ≤ 1048576)) (br (!eqP (daJ (drL (opB c)) (drS (opB c)) (drA (opB c))).fst (daR (drL (opB c)) (drS (opB c)) (drA (opB c))).fst) (R (some { av := vB false, obs := [], outs := [] })) (br (decide ((drL (opB c)).length ≤ 1048576)) (br (decide ((drL (opB c)).length ≤ 1048576)) (br (!ddtOk (drL (opB c)) == ddtOk (drL (opB c))) (R (some { av := vB false, obs := [], outs := [] })) (br (decide ((drL (opB c)).length ≤ 1048576)) (br (!ddtOk (drL (opB c))) (R (some { av := vB ((↑(daJ (drL (opB c)) (drS (opB c)) (drA (opB c))).fst.length : Int) == 0), obs := [], outs := [] })) (br (!(daJ (drL (opB c)) (drS (opB c)) (drA (opB c))).snd) (br (decide ((daJ (drL (opB c)) (drS (opB c)) (drA (opB c))).fst.length ≤ 1048576)) (R (some { av := vB (eqP (daJ (drL (opB c)) (drS (opB c)) (drA (opB c))).fst (drL (opB c))), obs := [], outs := [] })) False) (br (decide ((daJ (drL (opB c)) (drS (opB c)) (drA (opB c))).fst.length ≤ 1048576)) (LOOP5 L R 14 { tm := [vJ, vJ, vJ, AV.ows 0, vJ, vI (drA (opB c)), AV.ows 1, vJ, vJ, vJ, AV.ows 2, vB (ddJ (daJ (drL (opB c)) (drS (opB c)) (drA (opB c))).fst (drA (opB c))).snd, vI 0, vJ, vJ, vJ, vJ, vJ, vJ, vJ, vJ, vJ, vJ, vJ, vJ, vJ, vJ, vJ, vJ, vJ, vJ, vJ, vJ, vJ, vJ, vJ, vJ, vJ, vJ, vJ, vJ, vJ, vJ, vJ, vJ, vJ, vJ, vJ, vJ, vJ, vJ, vJ, vJ, vJ, vJ, vJ, vJ, vJ, vJ, vJ, vJ, vJ, vJ, vJ, vJ, vJ, vJ, vJ, vJ, vJ, vJ, vJ, vJ, vJ, vJ, vJ, vJ, vJ, vJ, vJ, vJ, vJ, vJ, vJ, vJ, vJ, vJ, vJ, vJ, vJ, vJ, vJ, vJ, vJ, vJ, vJ, vJ, vJ, vJ, vJ, vJ, vJ, vJ, vJ, vJ, vJ, vJ, vJ, vJ, vJ, vJ, vJ, vJ, vJ, vJ, vJ, vJ], ob := [(0, AO.row k3 (drL (opB c))), (1, AO.row k3 (daJ (drL (opB c)) (drS (opB c)) (drA (opB c))).fst), (2, AO.row k3 (ddJ (daJ (drL (opB c)) (drS (opB c)) (drA (opB c))).fst (drA (opB c))).fst)], nx := 1000000, ps := [] }) False))) False)) False) False)) False)) False) False) False)) := by kernel_rfl
def st5 (L x y : List (Elem k3)) (t : Int) (f : Bool) (a : Int) : St :=  ⟨[vJ, vJ, vJ, AV.ows 0, vJ, .val (.int .i64 t), AV.ows 1, vJ, vJ, vJ, AV.ows 2, .val (.bool f), .val (.int .i64 a), vJ, vJ, vJ, vJ, vJ, vJ, vJ, vJ, vJ, vJ, vJ, vJ, vJ, vJ, vJ, vJ, vJ, vJ, vJ, vJ, vJ, vJ, vJ, vJ, vJ, vJ, vJ, vJ, vJ, vJ, vJ, vJ, vJ, vJ, vJ, vJ, vJ, vJ, vJ, vJ, vJ, vJ, vJ, vJ, vJ, vJ, vJ, vJ, vJ, vJ, vJ, vJ, vJ, vJ, vJ, vJ, vJ, vJ, vJ, vJ, vJ, vJ, vJ, vJ, vJ, vJ, vJ, vJ, vJ, vJ, vJ, vJ, vJ, vJ, vJ, vJ, vJ, vJ, vJ, vJ, vJ, vJ, vJ, vJ, vJ, vJ, vJ, vJ, vJ, vJ, vJ, vJ, vJ, vJ, vJ, vJ, vJ, vJ, vJ, vJ, vJ, vJ, vJ, vJ], [(0, .row k3 L), (1, .row k3 x), (2, .row k3 y)], 1000000, []⟩
theorem b5 (L : Lp) (R : Option Res → Prop) (N : St → Prop) (L' x y : List (Elem k3)) (t : Int) (f : Bool) (a : Int) : (evP E5 G5 L (lp5 14) (st5 L' x y t f a) (rk5 L R 14 N)) = (
    br (decide (a < 13)) (br (decide (x.length ≤ 1048576)) (br (decide (L'.length ≤ 1048576)) (br (a != t) (br (IntKind.i64.wrap (dcI x a - dcI L' a) != 0) (R (some { av := vB false, obs := [], outs := [] })) (br (a == t) (br (IntKind.i64.wrap (dcI x a - dcI L' a) != 1) (R (some { av := vB false, obs := [], outs := [] })) (N { tm := [vJ, vJ, vJ, AV.ows 0, vJ, vI t, AV.ows 1, vJ, vJ, vJ, AV.ows 2, vB f, vI (IntKind.i64.wrap (a + 1)), vJ, vJ, vJ, vJ, vJ, vJ, vJ, vJ, vJ, vJ, vJ, vJ, vJ, vJ, vJ, vJ, vJ, vJ, vJ, vJ, vJ, vJ, vJ, vJ, vJ, vJ, vJ, vJ, vJ, vJ, vJ, vJ, vJ, vJ, vJ, vJ, vJ, vJ, vJ, vJ, vJ, vJ, vJ, vJ, vJ, vJ, vJ, vJ, vJ, vJ, vJ, vJ, vJ, vJ, vJ, vJ, vJ, vJ, vJ, vJ, vJ, vJ, vJ, vJ, vJ, vJ, vJ, vJ, vJ, vJ, vJ, vJ, vJ, vJ, vJ, vJ, vJ, vJ, vJ, vJ, vJ, vJ, vJ, vJ, vJ, vJ, vJ, vJ, vJ, vJ, vJ, vJ, vJ, vJ, vJ, vJ, vJ, vJ, vJ, vJ, vJ, vJ, vJ, vJ], ob := [(0, AO.row k3 L'), (1, AO.row k3 x), (2, AO.row k3 y)], nx := 1000000, ps := [] })) (N { tm := [vJ, vJ, vJ, AV.ows 0, vJ, vI t, AV.ows 1, vJ, vJ, vJ, AV.ows 2, vB f, vI (IntKind.i64.wrap (a + 1)), vJ, vJ, vJ, vJ, vJ, vJ, vJ, vJ, vJ, vJ, vJ, vJ, vJ, vJ, vJ, vJ, vJ, vJ, vJ, vJ, vJ, vJ, vJ, vJ, vJ, vJ, vJ, vJ, vJ, vJ, vJ, vJ, vJ, vJ, vJ, vJ, vJ, vJ, vJ, vJ, vJ, vJ, vJ, vJ, vJ, vJ, vJ, vJ, vJ, vJ, vJ, vJ, vJ, vJ, vJ, vJ, vJ, vJ, vJ, vJ, vJ, vJ, vJ, vJ, vJ, vJ, vJ, vJ, vJ, vJ, vJ, vJ, vJ, vJ, vJ, vJ, vJ, vJ, vJ, vJ, vJ, vJ, vJ, vJ, vJ, vJ, vJ, vJ, vJ, vJ, vJ, vJ, vJ, vJ, vJ, vJ, vJ, vJ, vJ, vJ, vJ, vJ, vJ, vJ], ob := [(0, AO.row k3 L'), (1, AO.row k3 x), (2, AO.row k3 y)], nx := 1000000, ps := [] }))) (br (a == t) (br (IntKind.i64.wrap (dcI x a - dcI L' a) != 1) (R (some { av := vB false, obs := [], outs := [] })) (N { tm := [vJ, vJ, vJ, AV.ows 0, vJ, vI t, AV.ows 1, vJ, vJ, vJ, AV.ows 2, vB f, vI (IntKind.i64.wrap (a + 1)), vJ, vJ, vJ, vJ, vJ, vJ, vJ, vJ, vJ, vJ, vJ, vJ, vJ, vJ, vJ, vJ, vJ, vJ, vJ, vJ, vJ, vJ, vJ, vJ, vJ, vJ, vJ, vJ, vJ, vJ, vJ, vJ, vJ, vJ, vJ, vJ, vJ, vJ, vJ, vJ, vJ, vJ, vJ, vJ, vJ, vJ, vJ, vJ, vJ, vJ, vJ, vJ, vJ, vJ, vJ, vJ, vJ, vJ, vJ, vJ, vJ, vJ, vJ, vJ, vJ, vJ, vJ, vJ, vJ, vJ, vJ, vJ, vJ, vJ, vJ, vJ, vJ, vJ, vJ, vJ, vJ, vJ, vJ, vJ, vJ, vJ, vJ, vJ, vJ, vJ, vJ, vJ, vJ, vJ, vJ, vJ, vJ, vJ, vJ, vJ, vJ, vJ, vJ, vJ], ob := [(0, AO.row k3 L'), (1, AO.row k3 x), (2, AO.row k3 y)], nx := 1000000, ps := [] })) (N { tm := [vJ, vJ, vJ, AV.ows 0, vJ, vI t, AV.ows 1, vJ, vJ, vJ, AV.ows 2, vB f, vI (IntKind.i64.wrap (a + 1)), vJ, vJ, vJ, vJ, vJ, vJ, vJ, vJ, vJ, vJ, vJ, vJ, vJ, vJ, vJ, vJ, vJ, vJ, vJ, vJ, vJ, vJ, vJ, vJ, vJ, vJ, vJ, vJ, vJ, vJ, vJ, vJ, vJ, vJ, vJ, vJ, vJ, vJ, vJ, vJ, vJ, vJ, vJ, vJ, vJ, vJ, vJ, vJ, vJ, vJ, vJ, vJ, vJ, vJ, vJ, vJ, vJ, vJ, vJ, vJ, vJ, vJ, vJ, vJ, vJ, vJ, vJ, vJ, vJ, vJ, vJ, vJ, vJ, vJ, vJ, vJ, vJ, vJ, vJ, vJ, vJ, vJ, vJ, vJ, vJ, vJ, vJ, vJ, vJ, vJ, vJ, vJ, vJ, vJ, vJ, vJ, vJ, vJ, vJ, vJ, vJ, vJ, vJ, vJ], ob := [(0, AO.row k3 L'), (1, AO.row k3 x), (2, AO.row k3 y)], nx := 1000000, ps := [] }))) False) False) (br (decide (x.length ≤ 1048576)) (br (ddtOk x) (br f (br (decide (y.length ≤ 1048576)) (br (eqP y L') (br (decide (x.length ≤ 1048576)) (br (decide (L'.length ≤ 1048576)) (R (some { av := vB (dcI x t == IntKind.i64.wrap (dcI L' t + 1)), obs := [], outs := [] })) False) False) (R (some { av := vB false, obs := [], outs := [] }))) False) (R (some { av := vB false, obs := [], outs := [] }))) (R (some { av := vB false, obs := [], outs := [] }))) False)) := by kernel_rfl
end Go.Proofs.Ytkjnijddbiconaa.Ev
