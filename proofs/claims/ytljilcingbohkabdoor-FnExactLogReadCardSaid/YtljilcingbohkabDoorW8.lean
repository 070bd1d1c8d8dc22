/- The law of LogRead: the walks. -/
import Derived.Test.YtljilcingbohkabDoorW7
namespace Go.Proofs.YtljilcingbohkabDoor.Ev
open Go
set_option linter.unusedVariables false
set_option linter.unusedSimpArgs false
set_option maxRecDepth 100000
set_option maxHeartbeats 1000000
abbrev kop : List CK := [.int .i64, .str, .str, .int .i64, .str]
abbrev klr : List CK := [.int .i64, .int .i64, .int .i64, .str, .str, .int .i64, .str]
def g108 : G1
  | [.agg [.val (.int .i64 a0), .val (.string a1), .val (.string a2), .val (.int .i64 a3), .val (.string a4)], .agg [.val (.int .i64 b0), .val (.string b1), .val (.string b2), .val (.int .i64 b3), .val (.string b4)]], [], k => k ⟨.val (.bool (elemEq kop (a0, a1, a2, a3, a4, ()) (b0, b1, b2, b3, b4, ()))), [], []⟩
  | _, _, _ => False
noncomputable def E108 : Env := E0.of Tryd.f108
noncomputable def G108 : Gk := gk []
noncomputable def lp108 (n : Nat) : Code := (loopOf n (codeOf Tryd.f108)).getD .skip
noncomputable def ct108 (L : Lp) (R : Option Res → Prop) (n : Nat) : Kt := contOf E108 G108 L n (codeOf Tryd.f108) (endK E108 Tryd.f108.results.toList R)
noncomputable def rk108 (L : Lp) (R : Option Res → Prop) (n : Nat) (N : St → Prop) : Kt := rk (jof E108 (lp108 n)) N (ct108 L R n)
noncomputable def rkn108 (L : Lp) (R : Option Res → Prop) (n : Nat) (N : St → Prop) (m : Nat) (N2 : St → Prop) : Kt := rk (jof E108 (lp108 m)) N2 (contOf E108 G108 L m (lp108 n) (rk108 L R n N))
noncomputable def LOOPN108 (L : Lp) (R : Option Res → Prop) (n : Nat) (N : St → Prop) (m : Nat) (st : St) : Prop := L (lp108 m) st (contOf E108 G108 L m (lp108 n) (rk108 L R n N))
noncomputable def LOOP108 (L : Lp) (R : Option Res → Prop) (n : Nat) (st : St) : Prop := L (lp108 n) st (ct108 L R n)
theorem hg108 : HG Tryd.prog G108 := hg_nil
theorem okf108 : Ok Tryd.prog E108 := ok0.of Tryd.f108
theorem e108 (L : Lp) (R : Option Res → Prop) (a0 : Int) (a1 : ByteArray) (a2 : ByteArray) (a3 : Int) (a4 : ByteArray) (b0 : Int) (b1 : ByteArray) (b2 : ByteArray) (b3 : Int) (b4 : ByteArray) : (bodyP E0 G108 L Tryd.f108 [.agg [.val (.int .i64 a0), .val (.string a1), .val (.string a2), .val (.int .i64 a3), .val (.string a4)], .agg [.val (.int .i64 b0), .val (.string b1), .val (.string b2), .val (.int .i64 b3), .val (.string b4)]] [] R) = (
    br (a0 != b0) (R (some { av := vB false, obs := [], outs := [] })) (br (!strEq a1 b1) (R (some { av := vB false, obs := [], outs := [] })) (br (!strEq a2 b2) (R (some { av := vB false, obs := [], outs := [] })) (br (a3 != b3) (R (some { av := vB false, obs := [], outs := [] })) (br (!strEq a4 b4) (R (some { av := vB false, obs := [], outs := [] })) (R (some { av := vB true, obs := [], outs := [] }))))))) := by kernel_rfl
theorem h108 : G1Ok Tryd.prog 108 g108 := by
  intro args obs k h
  unfold g108 at h
  split at h
  · rename_i k a0 a1 a2 a3 a4 b0 b1 b2 b3 b4
    refine ⟨_, ctr_fn ok0 hg108 Tryd.func108 (by kernel_rfl) (by kernel_rfl) (by kernel_rfl) fun C => ?_, h⟩
    rw [e108]
    repeat' (first | refine br_intro (fun h => ?_) (fun h => ?_))
    all_goals simp_all [elemEq, ckEq]
    all_goals grind
  · exact h.elim
def g45 : G1
  | [.agg [.val (.int .i64 a0), .val (.int .i64 a1), .val (.int .i64 a2), .val (.string a3), .val (.string a4), .val (.int .i64 a5), .val (.string a6)], .agg [.val (.int .i64 b0), .val (.int .i64 b1), .val (.int .i64 b2), .val (.string b3), .val (.string b4), .val (.int .i64 b5), .val (.string b6)]], [], k => k ⟨.val (.bool (elemEq klr (a0, a1, a2, a3, a4, a5, a6, ()) (b0, b1, b2, b3, b4, b5, b6, ()))), [], []⟩
  | _, _, _ => False
noncomputable def E45 : Env := E0.of Tryd.f45
noncomputable def G45 : Gk := gk [(108, g108)]
noncomputable def lp45 (n : Nat) : Code := (loopOf n (codeOf Tryd.f45)).getD .skip
noncomputable def ct45 (L : Lp) (R : Option Res → Prop) (n : Nat) : Kt := contOf E45 G45 L n (codeOf Tryd.f45) (endK E45 Tryd.f45.results.toList R)
noncomputable def rk45 (L : Lp) (R : Option Res → Prop) (n : Nat) (N : St → Prop) : Kt := rk (jof E45 (lp45 n)) N (ct45 L R n)
noncomputable def rkn45 (L : Lp) (R : Option Res → Prop) (n : Nat) (N : St → Prop) (m : Nat) (N2 : St → Prop) : Kt := rk (jof E45 (lp45 m)) N2 (contOf E45 G45 L m (lp45 n) (rk45 L R n N))
noncomputable def LOOPN45 (L : Lp) (R : Option Res → Prop) (n : Nat) (N : St → Prop) (m : Nat) (st : St) : Prop := L (lp45 m) st (contOf E45 G45 L m (lp45 n) (rk45 L R n N))
noncomputable def LOOP45 (L : Lp) (R : Option Res → Prop) (n : Nat) (st : St) : Prop := L (lp45 n) st (ct45 L R n)
theorem hg45 : HG Tryd.prog G45 := (hg_cons h108 hg_nil)
theorem okf45 : Ok Tryd.prog E45 := ok0.of Tryd.f45
theorem e45 (L : Lp) (R : Option Res → Prop) (a0 : Int) (a1 : Int) (a2 : Int) (a3 : ByteArray) (a4 : ByteArray) (a5 : Int) (a6 : ByteArray) (b0 : Int) (b1 : Int) (b2 : Int) (b3 : ByteArray) (b4 : ByteArray) (b5 : Int) (b6 : ByteArray) : (bodyP E0 G45 L Tryd.f45 [.agg [.val (.int .i64 a0), .val (.int .i64 a1), .val (.int .i64 a2), .val (.string a3), .val (.string a4), .val (.int .i64 a5), .val (.string a6)], .agg [.val (.int .i64 b0), .val (.int .i64 b1), .val (.int .i64 b2), .val (.string b3), .val (.string b4), .val (.int .i64 b5), .val (.string b6)]] [] R) = (
    br (a0 != b0) (R (some { av := vB false, obs := [], outs := [] })) (br (a1 != b1) (R (some { av := vB false, obs := [], outs := [] })) (br (!elemEq kop (a2, a3, a4, a5, a6, ()) (b2, b3, b4, b5, b6, ())) (R (some { av := vB false, obs := [], outs := [] })) (R (some { av := vB true, obs := [], outs := [] }))))) := by kernel_rfl
theorem h45 : G1Ok Tryd.prog 45 g45 := by
  intro args obs k h
  unfold g45 at h
  split at h
  · rename_i k a0 a1 a2 a3 a4 a5 a6 b0 b1 b2 b3 b4 b5 b6
    refine ⟨_, ctr_fn ok0 hg45 Tryd.func45 (by kernel_rfl) (by kernel_rfl) (by kernel_rfl) fun C => ?_, h⟩
    rw [e45]
    repeat' (first | refine br_intro (fun h => ?_) (fun h => ?_))
    all_goals simp_all [elemEq, ckEq]
    all_goals grind
  · exact h.elim
noncomputable def E43 : Env := Ef.of Tryd.f43
noncomputable def G43 : Gk := gk [(98, g98), (77, g77), (78, g78), (103, g103), (104, g104)]
noncomputable def lp43 (n : Nat) : Code := (loopOf n (codeOf Tryd.f43)).getD .skip
noncomputable def ct43 (L : Lp) (R : Option Res → Prop) (n : Nat) : Kt := contOf E43 G43 L n (codeOf Tryd.f43) (endK E43 Tryd.f43.results.toList R)
noncomputable def rk43 (L : Lp) (R : Option Res → Prop) (n : Nat) (N : St → Prop) : Kt := rk (jof E43 (lp43 n)) N (ct43 L R n)
noncomputable def rkn43 (L : Lp) (R : Option Res → Prop) (n : Nat) (N : St → Prop) (m : Nat) (N2 : St → Prop) : Kt := rk (jof E43 (lp43 m)) N2 (contOf E43 G43 L m (lp43 n) (rk43 L R n N))
noncomputable def LOOPN43 (L : Lp) (R : Option Res → Prop) (n : Nat) (N : St → Prop) (m : Nat) (st : St) : Prop := L (lp43 m) st (contOf E43 G43 L m (lp43 n) (rk43 L R n N))
noncomputable def LOOP43 (L : Lp) (R : Option Res → Prop) (n : Nat) (st : St) : Prop := L (lp43 n) st (ct43 L R n)
theorem hg43 : HG Tryd.prog G43 := (hg_cons h98 (hg_cons h77 (hg_cons h78 (hg_cons h103 (hg_cons h104 hg_nil)))))
theorem okf43 : Ok Tryd.prog E43 := okf.of Tryd.f43
theorem e43 (L : Lp) (R : Option Res → Prop) (t : ByteArray) : (bodyP Ef G43 L Tryd.f43 [.val (.string t)] [] R) = (
    br (decide (t.size ≤ 1048576)) (br (decide ((opnT t).size ≤ 1048576) && true) (br (!opnK t) (R (some { av := AV.tup [AV.agg [vI 0, vI 0, vI 0, vS ByteArray.empty, vS ByteArray.empty, vI 0, vS ByteArray.empty], vB false], obs := [], outs := [] })) (br ((↑(cutL (opnT t) 32).length : Int) != 5) (R (some { av := AV.tup [AV.agg [vI 0, vI 0, vI 0, vS ByteArray.empty, vS ByteArray.empty, vI 0, vS ByteArray.empty], vB false], obs := [], outs := [] })) (br (decide ((0 : Int) ≤ 0 ∧ 0 < (↑(cutL (opnT t) 32).length : Int))) (br (decide (ByteArray.size ((cutL (opnT t) 32).getD 0 (edflt ks)).fst ≤ 1048576) && true) (br ((↑(cutL ((cutL (opnT t) 32).getD 0 (edflt ks)).fst 46).length : Int) != 2) (R (some { av := AV.tup [AV.agg [vI 0, vI 0, vI 0, vS ByteArray.empty, vS ByteArray.empty, vI 0, vS ByteArray.empty], vB false], obs := [], outs := [] })) (br (decide ((0 : Int) ≤ 0 ∧ 0 < (↑(cutL ((cutL (opnT t) 32).getD 0 (edflt ks)).fst 46).length : Int))) (br (decide (ByteArray.size ((cutL ((cutL (opnT t) 32).getD 0 (edflt ks)).fst 46).getD 0 (edflt ks)).fst ≤ 1048576)) (br (decide ((0 : Int) ≤ 1 ∧ 1 < (↑(cutL ((cutL (opnT t) 32).getD 0 (edflt ks)).fst 46).length : Int))) (br (decide (ByteArray.size ((cutL ((cutL (opnT t) 32).getD 0 (edflt ks)).fst 46).getD 1 (edflt ks)).fst ≤ 1048576)) (br (decide ((0 : Int) ≤ 2 ∧ 2 < (↑(cutL (opnT t) 32).length : Int))) (br (decide (ByteArray.size ((cutL (opnT t) 32).getD 2 (edflt ks)).fst ≤ 1048576)) (br (decide ((0 : Int) ≤ 1 ∧ 1 < (↑(cutL (opnT t) 32).length : Int))) (br (decide ((0 : Int) ≤ 3 ∧ 3 < (↑(cutL (opnT t) 32).length : Int))) (br (!strEq ((cutL (opnT t) 32).getD 3 (edflt ks)).fst { data := #[45] }) (br (decide ((0 : Int) ≤ 3 ∧ 3 < (↑(cutL (opnT t) 32).length : Int))) (br (decide (ByteArray.size ((cutL (opnT t) 32).getD 3 (edflt ks)).fst ≤ 1048576)) (br (decide (ByteArray.size ((cutL (opnT t) 32).getD 1 (edflt ks)).fst ≤ 1048576)) (br (!strEq (logT (numN ((cutL ((cutL (opnT t) 32).getD 0 (edflt ks)).fst 46).getD 0 (edflt ks)).fst) (numN ((cutL ((cutL (opnT t) 32).getD 0 (edflt ks)).fst 46).getD 1 (edflt ks)).fst) 3 ((cutL (opnT t) 32).getD 1 (edflt ks)).fst ByteArray.empty (numN ((cutL (opnT t) 32).getD 2 (edflt ks)).fst) (unhR ((cutL (opnT t) 32).getD 3 (edflt ks)).fst)) t) (R (some { av := AV.tup [AV.agg [vI 0, vI 0, vI 0, vS ByteArray.empty, vS ByteArray.empty, vI 0, vS ByteArray.empty], vB false], obs := [], outs := [] })) (R (some { av := AV.tup [AV.agg [vI (numN ((cutL ((cutL (opnT t) 32).getD 0 (edflt ks)).fst 46).getD 0 (edflt ks)).fst), vI (numN ((cutL ((cutL (opnT t) 32).getD 0 (edflt ks)).fst 46).getD 1 (edflt ks)).fst), vI 3, vS ((cutL (opnT t) 32).getD 1 (edflt ks)).fst, vS ByteArray.empty, vI (numN ((cutL (opnT t) 32).getD 2 (edflt ks)).fst), vS (unhR ((cutL (opnT t) 32).getD 3 (edflt ks)).fst)], vB true], obs := [], outs := [] }))) False) False) False) (br (decide (ByteArray.size ((cutL (opnT t) 32).getD 1 (edflt ks)).fst ≤ 1048576)) (br (!strEq (logT (numN ((cutL ((cutL (opnT t) 32).getD 0 (edflt ks)).fst 46).getD 0 (edflt ks)).fst) (numN ((cutL ((cutL (opnT t) 32).getD 0 (edflt ks)).fst 46).getD 1 (edflt ks)).fst) 3 ((cutL (opnT t) 32).getD 1 (edflt ks)).fst ByteArray.empty (numN ((cutL (opnT t) 32).getD 2 (edflt ks)).fst) ByteArray.empty) t) (R (some { av := AV.tup [AV.agg [vI 0, vI 0, vI 0, vS ByteArray.empty, vS ByteArray.empty, vI 0, vS ByteArray.empty], vB false], obs := [], outs := [] })) (R (some { av := AV.tup [AV.agg [vI (numN ((cutL ((cutL (opnT t) 32).getD 0 (edflt ks)).fst 46).getD 0 (edflt ks)).fst), vI (numN ((cutL ((cutL (opnT t) 32).getD 0 (edflt ks)).fst 46).getD 1 (edflt ks)).fst), vI 3, vS ((cutL (opnT t) 32).getD 1 (edflt ks)).fst, vS ByteArray.empty, vI (numN ((cutL (opnT t) 32).getD 2 (edflt ks)).fst), vS ByteArray.empty], vB true], obs := [], outs := [] }))) False)) False) False) False) False) False) False) False) False)) False) False))) False) False) := by kernel_rfl
theorem h43 : G1Ok Tryd.prog 43 g43 := by
  intro args obs k h
  unfold g43 at h
  split at h
  · rename_i k t
    obtain ⟨hl, h⟩ := brd h
    refine ⟨_, ctr_fn okf hg43 Tryd.func43 (by kernel_rfl) (by kernel_rfl) (by kernel_rfl) fun C => ?_, h⟩
    rw [e43]
    have hz : (opnT t).size ≤ 1048576 := Nat.le_trans (opnT_size t) hl
    have ws : ∀ i, (lw t i).size ≤ 1048576 := fun i => Nat.le_trans (wd_size _ 32 i) hz
    have ms : ∀ i, (lm t i).size ≤ 1048576 := fun i => Nat.le_trans (wd_size _ 46 i) (ws 0)
    refine br_yes hl (br_t (by rw [decide_eq_true hz]; rfl) (br_not (fun h1 => lr_f ?_) (fun h1 => br_bne (fun h2 => lr_f ?_) (fun h2 => ?_))))
    · unfold lrK
      rw [h1]
      rfl
    · unfold lrK
      rw [decide_eq_false (show ¬ ((cutL (opnT t) 32).length : Int) = 5 from beq_eq_false_iff_ne.1 h2)]
      simp
    have hL : ((cutL (opnT t) 32).length : Int) = 5 := eq_of_beq h2
    refine br_yes ⟨by omega, by omega⟩ (br_t (show (decide ((lw t 0).size ≤ 1048576) && true) = true by rw [decide_eq_true (ws 0)]; rfl) (br_bne (fun h3 => lr_f ?_) (fun h3 => ?_)))
    · unfold lrK
      rw [decide_eq_false (show ¬ ((cutL (lw t 0) 46).length : Int) = 2 from beq_eq_false_iff_ne.1 h3)]
      simp
    have hM : ((cutL (lw t 0) 46).length : Int) = 2 := eq_of_beq h3
    have hK : lrK t = strEq (logT (numN (lm t 0)) (numN (lm t 1)) 3 (lw t 1) ⟨#[]⟩ (numN (lw t 2)) (hxO t)) t := by
      unfold lrK
      rw [h1, decide_eq_true hL, decide_eq_true hM]
      rfl
    have hM' : ((cutL ((cutL (opnT t) 32).getD 0 (edflt ks)).1 46).length : Int) = 2 := hM
    refine br_yes ⟨by omega, by omega⟩ (br_yes (ms 0) (br_yes ⟨by omega, by omega⟩ (br_yes (ms 1) (br_yes ⟨by omega, by omega⟩ (br_yes (ws 2) (br_yes ⟨by omega, by omega⟩ (br_yes ⟨by omega, by omega⟩ (br_not (fun h4 => br_yes ⟨by omega, by omega⟩ (br_yes (ws 3) (br_yes (ws 1) (br_not (fun h5 => lr_f (hK.trans ?_)) (fun h5 => ?_))))) (fun h4 => br_yes (ws 1) (br_not (fun h5 => lr_f (hK.trans ?_)) (fun h5 => ?_)))))))))))
    · have h4 : isD (lw t 3) = false := h4
      unfold hxO
      rw [h4]
      exact h5
    · have h4 : isD (lw t 3) = false := h4
      have hO : hxO t = unhR (lw t 3) := by
        unfold hxO
        rw [h4]
      have hk : lrK t = true := hK.trans (by rw [hO]; exact h5)
      have := lr_t hk
      rw [hO] at this
      exact this
    · have h4 : isD (lw t 3) = true := h4
      unfold hxO
      rw [h4]
      exact h5
    · have h4 : isD (lw t 3) = true := h4
      have hO : hxO t = ⟨#[]⟩ := by
        unfold hxO
        rw [h4]
      have hk : lrK t = true := hK.trans (by rw [hO]; exact h5)
      have := lr_t hk
      rw [hO] at this
      exact this
  · exact h.elim
noncomputable def E44 : Env := Ef.of Tryd.f44
noncomputable def G44 : Gk := gk [(100, g98), (95, g95), (101, g101), (105, g105), (106, g103), (107, g104)]
noncomputable def lp44 (n : Nat) : Code := (loopOf n (codeOf Tryd.f44)).getD .skip
noncomputable def ct44 (L : Lp) (R : Option Res → Prop) (n : Nat) : Kt := contOf E44 G44 L n (codeOf Tryd.f44) (endK E44 Tryd.f44.results.toList R)
noncomputable def rk44 (L : Lp) (R : Option Res → Prop) (n : Nat) (N : St → Prop) : Kt := rk (jof E44 (lp44 n)) N (ct44 L R n)
noncomputable def rkn44 (L : Lp) (R : Option Res → Prop) (n : Nat) (N : St → Prop) (m : Nat) (N2 : St → Prop) : Kt := rk (jof E44 (lp44 m)) N2 (contOf E44 G44 L m (lp44 n) (rk44 L R n N))
noncomputable def LOOPN44 (L : Lp) (R : Option Res → Prop) (n : Nat) (N : St → Prop) (m : Nat) (st : St) : Prop := L (lp44 m) st (contOf E44 G44 L m (lp44 n) (rk44 L R n N))
noncomputable def LOOP44 (L : Lp) (R : Option Res → Prop) (n : Nat) (st : St) : Prop := L (lp44 n) st (ct44 L R n)
theorem hg44 : HG Tryd.prog G44 := (hg_cons h100 (hg_cons h95 (hg_cons h101 (hg_cons h105 (hg_cons h106 (hg_cons h107 hg_nil))))))
theorem okf44 : Ok Tryd.prog E44 := okf.of Tryd.f44
theorem e44 (L : Lp) (R : Option Res → Prop) (t : ByteArray) : (bodyP Ef G44 L Tryd.f44 [.val (.string t)] [] R) = (
    br (decide (t.size ≤ 1048576)) (br (decide ((opnT t).size ≤ 1048576) && true) (br ((↑(cutL (opnT t) 32).length : Int) != 5) (R (some { av := AV.tup [AV.agg [vI 0, vI 0, vI 0, vS ByteArray.empty, vS ByteArray.empty, vI 0, vS ByteArray.empty], vB false], obs := [], outs := [] })) (br (decide ((0 : Int) ≤ 0 ∧ 0 < (↑(cutL (opnT t) 32).length : Int))) (br (decide (ByteArray.size ((cutL (opnT t) 32).getD 0 (edflt ks)).fst ≤ 2097152) && true) (br (decide ((cutH ((cutL (opnT t) 32).getD 0 (edflt ks)).fst 46).size ≤ 1048576)) (br (atK (cutH ((cutL (opnT t) 32).getD 0 (edflt ks)).fst 46)) (br (decide ((cutZ ((cutL (opnT t) 32).getD 0 (edflt ks)).fst 46).size ≤ 1048576)) (br (atK (cutZ ((cutL (opnT t) 32).getD 0 (edflt ks)).fst 46)) (br (decide ((0 : Int) ≤ 2 ∧ 2 < (↑(cutL (opnT t) 32).length : Int))) (br (decide (ByteArray.size ((cutL (opnT t) 32).getD 2 (edflt ks)).fst ≤ 1048576)) (br (atK ((cutL (opnT t) 32).getD 2 (edflt ks)).fst) (br (decide ((0 : Int) ≤ 3 ∧ 3 < (↑(cutL (opnT t) 32).length : Int))) (br (decide (ByteArray.size ((cutL (opnT t) 32).getD 3 (edflt ks)).fst ≤ 1048576)) (br (decide ((0 : Int) ≤ 3 ∧ 3 < (↑(cutL (opnT t) 32).length : Int))) (br (strEq ((cutL (opnT t) 32).getD 3 (edflt ks)).fst { data := #[45] }) (br (decide ((0 : Int) ≤ 1 ∧ 1 < (↑(cutL (opnT t) 32).length : Int))) (br (decide (ByteArray.size ((cutL (opnT t) 32).getD 1 (edflt ks)).fst ≤ 1048576)) (br (!strEq (logT (atN (cutH ((cutL (opnT t) 32).getD 0 (edflt ks)).fst 46)) (atN (cutZ ((cutL (opnT t) 32).getD 0 (edflt ks)).fst 46)) 3 ((cutL (opnT t) 32).getD 1 (edflt ks)).fst ByteArray.empty (atN ((cutL (opnT t) 32).getD 2 (edflt ks)).fst) { data := #[] }) t) (R (some { av := AV.tup [AV.agg [vI 0, vI 0, vI 0, vS ByteArray.empty, vS ByteArray.empty, vI 0, vS ByteArray.empty], vB false], obs := [], outs := [] })) (R (some { av := AV.tup [AV.agg [vI (atN (cutH ((cutL (opnT t) 32).getD 0 (edflt ks)).fst 46)), vI (atN (cutZ ((cutL (opnT t) 32).getD 0 (edflt ks)).fst 46)), vI 3, vS ((cutL (opnT t) 32).getD 1 (edflt ks)).fst, vS ByteArray.empty, vI (atN ((cutL (opnT t) 32).getD 2 (edflt ks)).fst), vS { data := #[] }], vB true], obs := [], outs := [] }))) False) False) (br (decide ((0 : Int) ≤ 1 ∧ 1 < (↑(cutL (opnT t) 32).length : Int))) (br (!okH ((cutL (opnT t) 32).getD 3 (edflt ks)).fst) (R (some { av := AV.tup [AV.agg [vI 0, vI 0, vI 0, vS ByteArray.empty, vS ByteArray.empty, vI 0, vS ByteArray.empty], vB false], obs := [], outs := [] })) (br (decide (ByteArray.size ((cutL (opnT t) 32).getD 1 (edflt ks)).fst ≤ 1048576)) (br (!strEq (logT (atN (cutH ((cutL (opnT t) 32).getD 0 (edflt ks)).fst 46)) (atN (cutZ ((cutL (opnT t) 32).getD 0 (edflt ks)).fst 46)) 3 ((cutL (opnT t) 32).getD 1 (edflt ks)).fst ByteArray.empty (atN ((cutL (opnT t) 32).getD 2 (edflt ks)).fst) (unhR ((cutL (opnT t) 32).getD 3 (edflt ks)).fst)) t) (R (some { av := AV.tup [AV.agg [vI 0, vI 0, vI 0, vS ByteArray.empty, vS ByteArray.empty, vI 0, vS ByteArray.empty], vB false], obs := [], outs := [] })) (R (some { av := AV.tup [AV.agg [vI (atN (cutH ((cutL (opnT t) 32).getD 0 (edflt ks)).fst 46)), vI (atN (cutZ ((cutL (opnT t) 32).getD 0 (edflt ks)).fst 46)), vI 3, vS ((cutL (opnT t) 32).getD 1 (edflt ks)).fst, vS ByteArray.empty, vI (atN ((cutL (opnT t) 32).getD 2 (edflt ks)).fst), vS (unhR ((cutL (opnT t) 32).getD 3 (edflt ks)).fst)], vB true], obs := [], outs := [] }))) False)) False)) False) False) False) (br (decide ((0 : Int) ≤ 3 ∧ 3 < (↑(cutL (opnT t) 32).length : Int))) (br (decide (ByteArray.size ((cutL (opnT t) 32).getD 3 (edflt ks)).fst ≤ 1048576)) (br (decide ((0 : Int) ≤ 3 ∧ 3 < (↑(cutL (opnT t) 32).length : Int))) (br (strEq ((cutL (opnT t) 32).getD 3 (edflt ks)).fst { data := #[45] }) (br (decide ((0 : Int) ≤ 1 ∧ 1 < (↑(cutL (opnT t) 32).length : Int))) (R (some { av := AV.tup [AV.agg [vI 0, vI 0, vI 0, vS ByteArray.empty, vS ByteArray.empty, vI 0, vS ByteArray.empty], vB false], obs := [], outs := [] })) False) (br (decide ((0 : Int) ≤ 1 ∧ 1 < (↑(cutL (opnT t) 32).length : Int))) (R (some { av := AV.tup [AV.agg [vI 0, vI 0, vI 0, vS ByteArray.empty, vS ByteArray.empty, vI 0, vS ByteArray.empty], vB false], obs := [], outs := [] })) False)) False) False) False)) False) False) (br (decide ((0 : Int) ≤ 2 ∧ 2 < (↑(cutL (opnT t) 32).length : Int))) (br (decide (ByteArray.size ((cutL (opnT t) 32).getD 2 (edflt ks)).fst ≤ 1048576)) (br (atK ((cutL (opnT t) 32).getD 2 (edflt ks)).fst) (br (decide ((0 : Int) ≤ 3 ∧ 3 < (↑(cutL (opnT t) 32).length : Int))) (br (decide (ByteArray.size ((cutL (opnT t) 32).getD 3 (edflt ks)).fst ≤ 1048576)) (br (decide ((0 : Int) ≤ 3 ∧ 3 < (↑(cutL (opnT t) 32).length : Int))) (br (strEq ((cutL (opnT t) 32).getD 3 (edflt ks)).fst { data := #[45] }) (br (decide ((0 : Int) ≤ 1 ∧ 1 < (↑(cutL (opnT t) 32).length : Int))) (R (some { av := AV.tup [AV.agg [vI 0, vI 0, vI 0, vS ByteArray.empty, vS ByteArray.empty, vI 0, vS ByteArray.empty], vB false], obs := [], outs := [] })) False) (br (decide ((0 : Int) ≤ 1 ∧ 1 < (↑(cutL (opnT t) 32).length : Int))) (R (some { av := AV.tup [AV.agg [vI 0, vI 0, vI 0, vS ByteArray.empty, vS ByteArray.empty, vI 0, vS ByteArray.empty], vB false], obs := [], outs := [] })) False)) False) False) False) (br (decide ((0 : Int) ≤ 3 ∧ 3 < (↑(cutL (opnT t) 32).length : Int))) (br (decide (ByteArray.size ((cutL (opnT t) 32).getD 3 (edflt ks)).fst ≤ 1048576)) (br (decide ((0 : Int) ≤ 3 ∧ 3 < (↑(cutL (opnT t) 32).length : Int))) (br (strEq ((cutL (opnT t) 32).getD 3 (edflt ks)).fst { data := #[45] }) (br (decide ((0 : Int) ≤ 1 ∧ 1 < (↑(cutL (opnT t) 32).length : Int))) (R (some { av := AV.tup [AV.agg [vI 0, vI 0, vI 0, vS ByteArray.empty, vS ByteArray.empty, vI 0, vS ByteArray.empty], vB false], obs := [], outs := [] })) False) (br (decide ((0 : Int) ≤ 1 ∧ 1 < (↑(cutL (opnT t) 32).length : Int))) (R (some { av := AV.tup [AV.agg [vI 0, vI 0, vI 0, vS ByteArray.empty, vS ByteArray.empty, vI 0, vS ByteArray.empty], vB false], obs := [], outs := [] })) False)) False) False) False)) False) False)) False) (br (decide ((cutZ ((cutL (opnT t) 32).getD 0 (edflt ks)).fst 46).size ≤ 1048576)) (br (atK (cutZ ((cutL (opnT t) 32).getD 0 (edflt ks)).fst 46)) (br (decide ((0 : Int) ≤ 2 ∧ 2 < (↑(cutL (opnT t) 32).length : Int))) (br (decide (ByteArray.size ((cutL (opnT t) 32).getD 2 (edflt ks)).fst ≤ 1048576)) (br (atK ((cutL (opnT t) 32).getD 2 (edflt ks)).fst) (br (decide ((0 : Int) ≤ 3 ∧ 3 < (↑(cutL (opnT t) 32).length : Int))) (br (decide (ByteArray.size ((cutL (opnT t) 32).getD 3 (edflt ks)).fst ≤ 1048576)) (br (decide ((0 : Int) ≤ 3 ∧ 3 < (↑(cutL (opnT t) 32).length : Int))) (br (strEq ((cutL (opnT t) 32).getD 3 (edflt ks)).fst { data := #[45] }) (br (decide ((0 : Int) ≤ 1 ∧ 1 < (↑(cutL (opnT t) 32).length : Int))) (R (some { av := AV.tup [AV.agg [vI 0, vI 0, vI 0, vS ByteArray.empty, vS ByteArray.empty, vI 0, vS ByteArray.empty], vB false], obs := [], outs := [] })) False) (br (decide ((0 : Int) ≤ 1 ∧ 1 < (↑(cutL (opnT t) 32).length : Int))) (R (some { av := AV.tup [AV.agg [vI 0, vI 0, vI 0, vS ByteArray.empty, vS ByteArray.empty, vI 0, vS ByteArray.empty], vB false], obs := [], outs := [] })) False)) False) False) False) (br (decide ((0 : Int) ≤ 3 ∧ 3 < (↑(cutL (opnT t) 32).length : Int))) (br (decide (ByteArray.size ((cutL (opnT t) 32).getD 3 (edflt ks)).fst ≤ 1048576)) (br (decide ((0 : Int) ≤ 3 ∧ 3 < (↑(cutL (opnT t) 32).length : Int))) (br (strEq ((cutL (opnT t) 32).getD 3 (edflt ks)).fst { data := #[45] }) (br (decide ((0 : Int) ≤ 1 ∧ 1 < (↑(cutL (opnT t) 32).length : Int))) (R (some { av := AV.tup [AV.agg [vI 0, vI 0, vI 0, vS ByteArray.empty, vS ByteArray.empty, vI 0, vS ByteArray.empty], vB false], obs := [], outs := [] })) False) (br (decide ((0 : Int) ≤ 1 ∧ 1 < (↑(cutL (opnT t) 32).length : Int))) (R (some { av := AV.tup [AV.agg [vI 0, vI 0, vI 0, vS ByteArray.empty, vS ByteArray.empty, vI 0, vS ByteArray.empty], vB false], obs := [], outs := [] })) False)) False) False) False)) False) False) (br (decide ((0 : Int) ≤ 2 ∧ 2 < (↑(cutL (opnT t) 32).length : Int))) (br (decide (ByteArray.size ((cutL (opnT t) 32).getD 2 (edflt ks)).fst ≤ 1048576)) (br (atK ((cutL (opnT t) 32).getD 2 (edflt ks)).fst) (br (decide ((0 : Int) ≤ 3 ∧ 3 < (↑(cutL (opnT t) 32).length : Int))) (br (decide (ByteArray.size ((cutL (opnT t) 32).getD 3 (edflt ks)).fst ≤ 1048576)) (br (decide ((0 : Int) ≤ 3 ∧ 3 < (↑(cutL (opnT t) 32).length : Int))) (br (strEq ((cutL (opnT t) 32).getD 3 (edflt ks)).fst { data := #[45] }) (br (decide ((0 : Int) ≤ 1 ∧ 1 < (↑(cutL (opnT t) 32).length : Int))) (R (some { av := AV.tup [AV.agg [vI 0, vI 0, vI 0, vS ByteArray.empty, vS ByteArray.empty, vI 0, vS ByteArray.empty], vB false], obs := [], outs := [] })) False) (br (decide ((0 : Int) ≤ 1 ∧ 1 < (↑(cutL (opnT t) 32).length : Int))) (R (some { av := AV.tup [AV.agg [vI 0, vI 0, vI 0, vS ByteArray.empty, vS ByteArray.empty, vI 0, vS ByteArray.empty], vB false], obs := [], outs := [] })) False)) False) False) False) (br (decide ((0 : Int) ≤ 3 ∧ 3 < (↑(cutL (opnT t) 32).length : Int))) (br (decide (ByteArray.size ((cutL (opnT t) 32).getD 3 (edflt ks)).fst ≤ 1048576)) (br (decide ((0 : Int) ≤ 3 ∧ 3 < (↑(cutL (opnT t) 32).length : Int))) (br (strEq ((cutL (opnT t) 32).getD 3 (edflt ks)).fst { data := #[45] }) (br (decide ((0 : Int) ≤ 1 ∧ 1 < (↑(cutL (opnT t) 32).length : Int))) (R (some { av := AV.tup [AV.agg [vI 0, vI 0, vI 0, vS ByteArray.empty, vS ByteArray.empty, vI 0, vS ByteArray.empty], vB false], obs := [], outs := [] })) False) (br (decide ((0 : Int) ≤ 1 ∧ 1 < (↑(cutL (opnT t) 32).length : Int))) (R (some { av := AV.tup [AV.agg [vI 0, vI 0, vI 0, vS ByteArray.empty, vS ByteArray.empty, vI 0, vS ByteArray.empty], vB false], obs := [], outs := [] })) False)) False) False) False)) False) False)) False)) False) False) False)) False) False) := by kernel_rfl
theorem h44 : G1Ok Tryd.prog 44 g43 := by
  intro args obs k h
  unfold g43 at h
  split at h
  · rename_i k t
    obtain ⟨hl, h⟩ := brd h
    refine ⟨_, ctr_fn okf hg44 Tryd.func44 (by kernel_rfl) (by kernel_rfl) (by kernel_rfl) fun C => ?_, h⟩
    rw [e44]
    have hz : (opnT t).size ≤ 1048576 := Nat.le_trans (opnT_size t) hl
    have ws : ∀ i, (lw t i).size ≤ 1048576 := fun i => Nat.le_trans (wd_size _ 32 i) hz
    have hs : (cutH (lw t 0) 46).size ≤ 1048576 := Nat.le_trans (cutH_size _ 46) (ws 0)
    have zs : (cutZ (lw t 0) 46).size ≤ 1048576 := Nat.le_trans (cutZ_size _ 46) (ws 0)
    have w0 : (lw t 0).size ≤ 2097152 := Nat.le_trans (ws 0) (by decide)
    obtain ⟨u1, u2⟩ := lr_eq t
    refine br_yes hl (br_t (by rw [decide_eq_true hz]; rfl) (br_bne (fun h2 => lr_f ?_) (fun h2 => ?_)))
    · rw [← u1]
      unfold lrP
      rw [decide_eq_false (show ¬ ((cutL (opnT t) 32).length : Int) = 5 from beq_eq_false_iff_ne.1 h2)]
      rfl
    have hL : ((cutL (opnT t) 32).length : Int) = 5 := eq_of_beq h2
    refine br_yes ⟨by omega, by omega⟩ (br_t (show (decide ((lw t 0).size ≤ 2097152) && true) = true by rw [decide_eq_true w0]; rfl) (br_yes hs (br_intro (fun k0 => br_yes zs (br_intro (fun k1 => br_yes ⟨by omega, by omega⟩ (br_yes (ws 2) (br_intro (fun k2 => ?_) (fun k2 => ?_)))) (fun k1 => ?_))) (fun k0 => ?_))))
    · have k0 : atK (cutH (lw t 0) 46) = true := k0
      have k1 : atK (cutZ (lw t 0) 46) = true := k1
      have k2 : atK (lw t 2) = true := k2
      have hK : lrK t = ((isD (lw t 3) || okH (lw t 3)) && strEq (logT (atN (cutH (lw t 0) 46)) (atN (cutZ (lw t 0) 46)) 3 (lw t 1) ⟨#[]⟩ (atN (lw t 2)) (hxO t)) t) := by
        rw [← u1]
        unfold lrP
        rw [decide_eq_true hL, k0, k1, k2]
        rfl
      have fin : ∀ u, hxO t = u → lrK t = true → (some ⟨.tup [lgA (atN (cutH (lw t 0) 46)) (atN (cutZ (lw t 0) 46)) 3 (lw t 1) ⟨#[]⟩ (atN (lw t 2)) u, vB true], [], []⟩ : Option Res) = some ⟨.tup [lgA (lrX t) (lrQ t) (lrN t) (lrA t) ⟨#[]⟩ (lrI t) (lrT t), .val (.bool (lrK t))], [], []⟩ := by
        intro u hu hk
        obtain ⟨a, b, c⟩ := u2 hk
        rw [a, b, c, ← hu]
        exact lr_t hk
      refine br_yes ⟨by omega, by omega⟩ (br_yes (ws 3) (br_yes ⟨by omega, by omega⟩ (br_intro (fun h4 => br_yes ⟨by omega, by omega⟩ (br_yes (ws 1) (br_not (fun h5 => lr_f (hK.trans ?_)) (fun h5 => ?_)))) (fun h4 => br_yes ⟨by omega, by omega⟩ (br_not (fun h6 => lr_f (hK.trans ?_)) (fun h6 => br_yes (ws 1) (br_not (fun h5 => lr_f (hK.trans ?_)) (fun h5 => ?_))))))))
      · have h4 : isD (lw t 3) = true := h4
        have hO : hxO t = ⟨#[]⟩ := by
          unfold hxO
          rw [h4]
        rw [hO, h4, Bool.true_or, Bool.true_and]
        exact h5
      · have h4 : isD (lw t 3) = true := h4
        have hO : hxO t = ⟨#[]⟩ := by
          unfold hxO
          rw [h4]
        exact fin _ hO (hK.trans (by rw [hO, h4, Bool.true_or, Bool.true_and]; exact h5))
      · have h4 : isD (lw t 3) = false := h4
        have h6 : okH (lw t 3) = false := h6
        rw [h4, h6]
        rfl
      · have h4 : isD (lw t 3) = false := h4
        have h6 : okH (lw t 3) = true := h6
        have hO : hxO t = unhR (lw t 3) := by
          unfold hxO
          rw [h4]
        rw [hO, h6, Bool.or_true, Bool.true_and]
        exact h5
      · have h4 : isD (lw t 3) = false := h4
        have h6 : okH (lw t 3) = true := h6
        have hO : hxO t = unhR (lw t 3) := by
          unfold hxO
          rw [h4]
        exact fin _ hO (hK.trans (by rw [hO, h6, Bool.or_true, Bool.true_and]; exact h5))
    · have k2 : atK (lw t 2) = false := k2
      have hd : lrK t = false := by
        rw [← u1]
        unfold lrP
        rw [k2]
        simp
      exact (br_yes ⟨by omega, by omega⟩ (br_yes (ws 3) (br_yes ⟨by omega, by omega⟩ (br_intro (fun _ => br_yes ⟨by omega, by omega⟩ (lr_f hd)) (fun _ => br_yes ⟨by omega, by omega⟩ (lr_f hd))))))
    · have k1 : atK (cutZ (lw t 0) 46) = false := k1
      have hd : lrK t = false := by
        rw [← u1]
        unfold lrP
        rw [k1]
        simp
      exact (br_yes ⟨by omega, by omega⟩ (br_yes (ws 2) (br_intro (fun _ => (br_yes ⟨by omega, by omega⟩ (br_yes (ws 3) (br_yes ⟨by omega, by omega⟩ (br_intro (fun _ => br_yes ⟨by omega, by omega⟩ (lr_f hd)) (fun _ => br_yes ⟨by omega, by omega⟩ (lr_f hd))))))) (fun _ => (br_yes ⟨by omega, by omega⟩ (br_yes (ws 3) (br_yes ⟨by omega, by omega⟩ (br_intro (fun _ => br_yes ⟨by omega, by omega⟩ (lr_f hd)) (fun _ => br_yes ⟨by omega, by omega⟩ (lr_f hd))))))))))
    · have k0 : atK (cutH (lw t 0) 46) = false := k0
      have hd : lrK t = false := by
        rw [← u1]
        unfold lrP
        rw [k0]
        simp
      exact (br_yes zs (br_intro (fun _ => (br_yes ⟨by omega, by omega⟩ (br_yes (ws 2) (br_intro (fun _ => (br_yes ⟨by omega, by omega⟩ (br_yes (ws 3) (br_yes ⟨by omega, by omega⟩ (br_intro (fun _ => br_yes ⟨by omega, by omega⟩ (lr_f hd)) (fun _ => br_yes ⟨by omega, by omega⟩ (lr_f hd))))))) (fun _ => (br_yes ⟨by omega, by omega⟩ (br_yes (ws 3) (br_yes ⟨by omega, by omega⟩ (br_intro (fun _ => br_yes ⟨by omega, by omega⟩ (lr_f hd)) (fun _ => br_yes ⟨by omega, by omega⟩ (lr_f hd))))))))))) (fun _ => (br_yes ⟨by omega, by omega⟩ (br_yes (ws 2) (br_intro (fun _ => (br_yes ⟨by omega, by omega⟩ (br_yes (ws 3) (br_yes ⟨by omega, by omega⟩ (br_intro (fun _ => br_yes ⟨by omega, by omega⟩ (lr_f hd)) (fun _ => br_yes ⟨by omega, by omega⟩ (lr_f hd))))))) (fun _ => (br_yes ⟨by omega, by omega⟩ (br_yes (ws 3) (br_yes ⟨by omega, by omega⟩ (br_intro (fun _ => br_yes ⟨by omega, by omega⟩ (lr_f hd)) (fun _ => br_yes ⟨by omega, by omega⟩ (lr_f hd)))))))))))))
  · exact h.elim
theorem ckEq_self'' : ∀ (c : CK) (a : c.T), ckEq c a a = true
  | .int _, a => by simp [ckEq]
  | .str, a => strEq_self a
  | .bool, a => by simp [ckEq]
theorem elemEq_self'' : ∀ (cs : List CK) (a : Elem cs), elemEq cs a a = true
  | [], _ => rfl
  | [c], a => ckEq_self'' c a.1
  | c :: c' :: cs, a => by
    show (ckEq c a.1 a.1 && elemEq (c' :: cs) a.2 a.2) = true
    rw [ckEq_self'', elemEq_self'']
    rfl
noncomputable def E11 : Env := Ef.of Tryd.f11
noncomputable def G11 : Gk := gk [(43, g43), (44, g43), (45, g45)]
noncomputable def lp11 (n : Nat) : Code := (loopOf n (codeOf Tryd.f11)).getD .skip
noncomputable def ct11 (L : Lp) (R : Option Res → Prop) (n : Nat) : Kt := contOf E11 G11 L n (codeOf Tryd.f11) (endK E11 Tryd.f11.results.toList R)
noncomputable def rk11 (L : Lp) (R : Option Res → Prop) (n : Nat) (N : St → Prop) : Kt := rk (jof E11 (lp11 n)) N (ct11 L R n)
noncomputable def rkn11 (L : Lp) (R : Option Res → Prop) (n : Nat) (N : St → Prop) (m : Nat) (N2 : St → Prop) : Kt := rk (jof E11 (lp11 m)) N2 (contOf E11 G11 L m (lp11 n) (rk11 L R n N))
noncomputable def LOOPN11 (L : Lp) (R : Option Res → Prop) (n : Nat) (N : St → Prop) (m : Nat) (st : St) : Prop := L (lp11 m) st (contOf E11 G11 L m (lp11 n) (rk11 L R n N))
noncomputable def LOOP11 (L : Lp) (R : Option Res → Prop) (n : Nat) (st : St) : Prop := L (lp11 n) st (ct11 L R n)
theorem hg11 : HG Tryd.prog G11 := (hg_cons h43 (hg_cons h44 (hg_cons h45 hg_nil)))
theorem okf11 : Ok Tryd.prog E11 := okf.of Tryd.f11
theorem e11 (L : Lp) (R : Option Res → Prop) (t : ByteArray) : (bodyP Ef G11 L Tryd.f11 [.val (.string t)] [] R) = (
    br (decide ((↑t.size : Int) > 1048576)) (R (some { av := vB true, obs := [], outs := [] })) (br (decide (t.size ≤ 1048576)) (br (decide (t.size ≤ 1048576)) (br (!elemEq klr (lrX t, lrQ t, lrN t, lrA t, { data := #[] }, lrI t, lrT t, ()) (lrX t, lrQ t, lrN t, lrA t, { data := #[] }, lrI t, lrT t, ())) (R (some { av := vB false, obs := [], outs := [] })) (br (!lrK t == lrK t) (R (some { av := vB false, obs := [], outs := [] })) (R (some { av := vB true, obs := [], outs := [] })))) False) False)) := by kernel_rfl
theorem c11 (t : ByteArray) : Ctr Tryd.prog 11 [.val (.string t)] [] ⟨.val (.bool true), [], []⟩ := by
  refine ctr_fn okf hg11 Tryd.func11 (by kernel_rfl) (by kernel_rfl) (by kernel_rfl) fun C => ?_
  rw [e11, elemEq_self'', bnot_self]
  exact br_dec (fun _ => rfl) (fun h1 => br_yes (by omega) (br_yes (by omega) (br_f rfl (br_f rfl rfl))))
end Go.Proofs.YtljilcingbohkabDoor.Ev
