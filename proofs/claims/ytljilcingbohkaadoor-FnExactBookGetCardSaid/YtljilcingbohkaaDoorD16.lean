/- The law of BookGet. -/
import Derived.Test.YtljilcingbohkaaDoorD15
namespace Go.Proofs.YtljilcingbohkaaDoor.Ev
open Go
set_option linter.unusedVariables false
set_option linter.unusedSimpArgs false
set_option maxRecDepth 100000
def getB (xs : List (Elem kb)) (t : ByteArray) (i : Int) : ByteArray × Int := match bookOk xs && (decide (0 ≤ i) && decide (i ≤ 7)) with
  | false => (ByteArray.empty, 5)
  | true => match okB xs t with
    | false => (ByteArray.empty, 1)
    | true => (at1 (bks (atB xs (lnB xs t))) i.toNat, 0)
def g37 : G1
  | [.agg [.rsl [.str, .int .i64, .str, .str, .str, .str, .str, .str, .str, .str, .str] xs], .val (.string t), .val (.int .i64 i)], [], k => br (smB xs) (k ⟨.tup [.val (.string (getB xs t i).1), .val (.int .i64 (getB xs t i).2)], [], []⟩) False
  | _, _, _ => False
def g70 : G1
  | [.val (.int .i64 n)], [], k => k ⟨.val (.bool (decide (0 ≤ n) && decide (n ≤ 7))), [], []⟩
  | _, _, _ => False
noncomputable def E70 : Env := E0.of Tryd.f70
noncomputable def G70 : Gk := gk [(47, g47)]
noncomputable def lp70 (n : Nat) : Code := (loopOf n (codeOf Tryd.f70)).getD .skip
noncomputable def ct70 (L : Lp) (R : Option Res → Prop) (n : Nat) : Kt := contOf E70 G70 L n (codeOf Tryd.f70) (endK E70 Tryd.f70.results.toList R)
noncomputable def rk70 (L : Lp) (R : Option Res → Prop) (n : Nat) (N : St → Prop) : Kt := rk (jof E70 (lp70 n)) N (ct70 L R n)
noncomputable def rkn70 (L : Lp) (R : Option Res → Prop) (n : Nat) (N : St → Prop) (m : Nat) (N2 : St → Prop) : Kt := rk (jof E70 (lp70 m)) N2 (contOf E70 G70 L m (lp70 n) (rk70 L R n N))
noncomputable def LOOPN70 (L : Lp) (R : Option Res → Prop) (n : Nat) (N : St → Prop) (m : Nat) (st : St) : Prop := L (lp70 m) st (contOf E70 G70 L m (lp70 n) (rk70 L R n N))
noncomputable def LOOP70 (L : Lp) (R : Option Res → Prop) (n : Nat) (st : St) : Prop := L (lp70 n) st (ct70 L R n)
theorem hg70 : HG Tryd.prog G70 := (hg_cons h47 hg_nil)
theorem okf70 : Ok Tryd.prog E70 := ok0.of Tryd.f70
theorem e70 (L : Lp) (R : Option Res → Prop) (n : Int) : (bodyP E0 G70 L Tryd.f70 [.val (.int .i64 n)] [] R) = (
    R (some { av := vB (decide (0 ≤ n) && decide (n ≤ 7)), obs := [], outs := [] })) := by kernel_rfl
theorem h70 : G1Ok Tryd.prog 70 g70 := by
  intro args obs k h
  unfold g70 at h
  split at h
  · rename_i k n
    refine ⟨_, ctr_fn ok0 hg70 Tryd.func70 (by kernel_rfl) (by kernel_rfl) (by kernel_rfl) fun C => ?_, h⟩
    rw [e70]
  · exact h.elim
noncomputable def E37 : Env := Ef.of Tryd.f37
noncomputable def G37 : Gk := gk [(33, g33), (69, g69)]
noncomputable def lp37 (n : Nat) : Code := (loopOf n (codeOf Tryd.f37)).getD .skip
noncomputable def ct37 (L : Lp) (R : Option Res → Prop) (n : Nat) : Kt := contOf E37 G37 L n (codeOf Tryd.f37) (endK E37 Tryd.f37.results.toList R)
noncomputable def rk37 (L : Lp) (R : Option Res → Prop) (n : Nat) (N : St → Prop) : Kt := rk (jof E37 (lp37 n)) N (ct37 L R n)
noncomputable def rkn37 (L : Lp) (R : Option Res → Prop) (n : Nat) (N : St → Prop) (m : Nat) (N2 : St → Prop) : Kt := rk (jof E37 (lp37 m)) N2 (contOf E37 G37 L m (lp37 n) (rk37 L R n N))
noncomputable def LOOPN37 (L : Lp) (R : Option Res → Prop) (n : Nat) (N : St → Prop) (m : Nat) (st : St) : Prop := L (lp37 m) st (contOf E37 G37 L m (lp37 n) (rk37 L R n N))
noncomputable def LOOP37 (L : Lp) (R : Option Res → Prop) (n : Nat) (st : St) : Prop := L (lp37 n) st (ct37 L R n)
theorem hg37 : HG Tryd.prog G37 := (hg_cons h33 (hg_cons h69 hg_nil))
theorem okf37 : Ok Tryd.prog E37 := okf.of Tryd.f37
theorem e37 (L : Lp) (R : Option Res → Prop) (xs : List (Elem kb)) (t : ByteArray) (i : Int) : (bodyP Ef G37 L Tryd.f37 [.agg [.rsl kb xs], .val (.string t), .val (.int .i64 i)] [] R) = (
    br (decide (xs.length ≤ 1048576)) (br (smB xs) (br (!bookOk xs) (R (some { av := AV.tup [vS { data := #[] }, vI 5], obs := [], outs := [] })) (br (decide (i < 0)) (R (some { av := AV.tup [vS { data := #[] }, vI 5], obs := [], outs := [] })) (br (decide (i ≥ 8)) (R (some { av := AV.tup [vS { data := #[] }, vI 5], obs := [], outs := [] })) (br (!okB xs t) (R (some { av := AV.tup [vS { data := #[] }, vI 1], obs := [], outs := [] })) (br (decide (0 ≤ (↑(lnB xs t) : Int) ∧ (↑(lnB xs t) : Int) < (↑xs.length : Int))) (br (i == 0) (R (some { av := AV.tup [vS (xs.getD (↑(lnB xs t) : Int).toNat (edflt kb)).snd.snd.snd.fst, vI 0], obs := [], outs := [] })) (br (i == 1) (R (some { av := AV.tup [vS (xs.getD (↑(lnB xs t) : Int).toNat (edflt kb)).snd.snd.snd.snd.fst, vI 0], obs := [], outs := [] })) (br (i == 2) (R (some { av := AV.tup [vS (xs.getD (↑(lnB xs t) : Int).toNat (edflt kb)).snd.snd.snd.snd.snd.fst, vI 0], obs := [], outs := [] })) (br (i == 3) (R (some { av := AV.tup [vS (xs.getD (↑(lnB xs t) : Int).toNat (edflt kb)).snd.snd.snd.snd.snd.snd.fst, vI 0], obs := [], outs := [] })) (br (i == 4) (R (some { av := AV.tup [vS (xs.getD (↑(lnB xs t) : Int).toNat (edflt kb)).snd.snd.snd.snd.snd.snd.snd.fst, vI 0], obs := [], outs := [] })) (br (i == 5) (R (some { av := AV.tup [vS (xs.getD (↑(lnB xs t) : Int).toNat (edflt kb)).snd.snd.snd.snd.snd.snd.snd.snd.fst, vI 0], obs := [], outs := [] })) (br (i == 6) (R (some { av := AV.tup [vS (xs.getD (↑(lnB xs t) : Int).toNat (edflt kb)).snd.snd.snd.snd.snd.snd.snd.snd.snd.fst, vI 0], obs := [], outs := [] })) (br (i == 7) (R (some { av := AV.tup [vS (xs.getD (↑(lnB xs t) : Int).toNat (edflt kb)).snd.snd.snd.snd.snd.snd.snd.snd.snd.snd.fst, vI 0], obs := [], outs := [] })) False)))))))) False))))) False) False) := by kernel_rfl
theorem getB_b {xs : List (Elem kb)} {t : ByteArray} {i : Int} (h : bookOk xs = false) : getB xs t i = (ByteArray.empty, 5) := by unfold getB; rw [h]; rfl
theorem getB_i {xs : List (Elem kb)} {t : ByteArray} {i : Int} (h : (decide (0 ≤ i) && decide (i ≤ 7)) = false) : getB xs t i = (ByteArray.empty, 5) := by unfold getB; rw [h, Bool.and_false]
theorem getB_n {xs : List (Elem kb)} {t : ByteArray} {i : Int} (h : bookOk xs = true) (h2 : (decide (0 ≤ i) && decide (i ≤ 7)) = true) (h3 : okB xs t = false) : getB xs t i = (ByteArray.empty, 1) := by unfold getB; rw [h, h2, h3]; rfl
theorem getB_t {xs : List (Elem kb)} {t : ByteArray} {i : Int} (h : bookOk xs = true) (h2 : (decide (0 ≤ i) && decide (i ≤ 7)) = true) (h3 : okB xs t = true) : getB xs t i = (at1 (bks (atB xs (lnB xs t))) i.toNat, 0) := by unfold getB; rw [h, h2, h3]; rfl
theorem okB_lt {xs : List (Elem kb)} {t : ByteArray} (h : okB xs t = true) : lnB xs t < xs.length := by
  unfold okB at h
  rw [Bool.and_eq_true] at h
  exact of_decide_eq_true h.1
theorem bookOk_set {xs : List (Elem kb)} (h : bookOk xs = true) : allB xs.length (set1 xs) = true := by
  unfold bookOk at h
  simp only [Bool.and_eq_true] at h
  exact h.2.1
theorem bsB_ln {xs : List (Elem kb)} (h : bookOk xs = true) (t : ByteArray) : bsB xs t = lnB xs t := by
  refine bsf_ln fun a b hab hb hp => ?_
  by_cases e : a = b
  · subst e; exact hp
  · exact strLt_trans (srt (bookOk_set h) b a (by omega) hb) hp
theorem bkB_ok {xs : List (Elem kb)} (h : bookOk xs = true) (t : ByteArray) : bkB xs t = okB xs t := by
  unfold bkB okB
  rw [bsB_ln h]
theorem eight {i : Int} (h : (decide (0 ≤ i) && decide (i ≤ 7)) = true) : i = 0 ∨ i = 1 ∨ i = 2 ∨ i = 3 ∨ i = 4 ∨ i = 5 ∨ i = 6 ∨ i = 7 := by
  simp only [Bool.and_eq_true, decide_eq_true_eq] at h
  omega
theorem h37 : G1Ok Tryd.prog 37 g37 := by
  intro args obs k h
  unfold g37 at h
  split at h
  · rename_i k xs t i
    obtain ⟨hs, h⟩ := br_and h
    have hlen := smB_len hs
    refine ⟨_, ctr_fn okf hg37 Tryd.func37 (by kernel_rfl) (by kernel_rfl) (by kernel_rfl) fun C => ?_, h⟩
    rw [e37]
    refine br_yes hlen (br_t hs (br_not (fun h1 => ?_) (fun h1 => br_dec (fun h2 => ?_) (fun h2 => br_dec (fun h3 => ?_) (fun h3 => br_not (fun h4 => ?_) (fun h4 => br_yes ⟨by omega, by have := okB_lt h4; omega⟩ ?_))))))
    · show _ = _
      rw [getB_b h1]
      rfl
    · show _ = _
      rw [getB_i (by rw [decide_eq_false (show ¬ 0 ≤ i by omega)]; rfl)]
      rfl
    · show _ = _
      rw [getB_i (by rw [decide_eq_false (show ¬ i ≤ 7 by omega), Bool.and_false])]
      rfl
    · show _ = _
      rw [getB_n h1 (by rw [decide_eq_true (show 0 ≤ i by omega), decide_eq_true (show i ≤ 7 by omega)]; rfl) h4]
      rfl
    · have hi : (decide (0 ≤ i) && decide (i ≤ 7)) = true := by rw [decide_eq_true (show 0 ≤ i by omega), decide_eq_true (show i ≤ 7 by omega)]; rfl
      rw [Int.toNat_natCast, getB_t h1 hi h4]
      rcases eight hi with rfl | rfl | rfl | rfl | rfl | rfl | rfl | rfl
      all_goals
        repeat (first | refine br_t rfl ?_ | refine br_f rfl ?_)
        rfl
  · exact h.elim
noncomputable def E38 : Env := Ef.of Tryd.f38
noncomputable def G38 : Gk := gk [(35, g33), (70, g70), (71, g71)]
noncomputable def lp38 (n : Nat) : Code := (loopOf n (codeOf Tryd.f38)).getD .skip
noncomputable def ct38 (L : Lp) (R : Option Res → Prop) (n : Nat) : Kt := contOf E38 G38 L n (codeOf Tryd.f38) (endK E38 Tryd.f38.results.toList R)
noncomputable def rk38 (L : Lp) (R : Option Res → Prop) (n : Nat) (N : St → Prop) : Kt := rk (jof E38 (lp38 n)) N (ct38 L R n)
noncomputable def rkn38 (L : Lp) (R : Option Res → Prop) (n : Nat) (N : St → Prop) (m : Nat) (N2 : St → Prop) : Kt := rk (jof E38 (lp38 m)) N2 (contOf E38 G38 L m (lp38 n) (rk38 L R n N))
noncomputable def LOOPN38 (L : Lp) (R : Option Res → Prop) (n : Nat) (N : St → Prop) (m : Nat) (st : St) : Prop := L (lp38 m) st (contOf E38 G38 L m (lp38 n) (rk38 L R n N))
noncomputable def LOOP38 (L : Lp) (R : Option Res → Prop) (n : Nat) (st : St) : Prop := L (lp38 n) st (ct38 L R n)
theorem hg38 : HG Tryd.prog G38 := (hg_cons h35 (hg_cons h70 (hg_cons h71 hg_nil)))
theorem okf38 : Ok Tryd.prog E38 := okf.of Tryd.f38
theorem e38 (L : Lp) (R : Option Res → Prop) (xs : List (Elem kb)) (t : ByteArray) (i : Int) : (bodyP Ef G38 L Tryd.f38 [.agg [.rsl kb xs], .val (.string t), .val (.int .i64 i)] [] R) = (
    br (smB xs) (br (!bookOk xs) (R (some { av := AV.tup [vS { data := #[] }, vI 5], obs := [], outs := [] })) (br (!(decide (0 ≤ i) && decide (i ≤ 7))) (R (some { av := AV.tup [vS { data := #[] }, vI 5], obs := [], outs := [] })) (br (decide (xs.length ≤ 1048576)) (br (!bkB xs t) (R (some { av := AV.tup [vS { data := #[] }, vI 1], obs := [], outs := [] })) (br (decide (0 ≤ (↑(bsB xs t) : Int) ∧ (↑(bsB xs t) : Int) < (↑xs.length : Int))) (br (i == 0) (R (some { av := AV.tup [vS (xs.getD (↑(bsB xs t) : Int).toNat (edflt kb)).snd.snd.snd.fst, vI 0], obs := [], outs := [] })) (br (i == 1) (R (some { av := AV.tup [vS (xs.getD (↑(bsB xs t) : Int).toNat (edflt kb)).snd.snd.snd.snd.fst, vI 0], obs := [], outs := [] })) (br (i == 2) (R (some { av := AV.tup [vS (xs.getD (↑(bsB xs t) : Int).toNat (edflt kb)).snd.snd.snd.snd.snd.fst, vI 0], obs := [], outs := [] })) (br (i == 3) (R (some { av := AV.tup [vS (xs.getD (↑(bsB xs t) : Int).toNat (edflt kb)).snd.snd.snd.snd.snd.snd.fst, vI 0], obs := [], outs := [] })) (br (i == 4) (R (some { av := AV.tup [vS (xs.getD (↑(bsB xs t) : Int).toNat (edflt kb)).snd.snd.snd.snd.snd.snd.snd.fst, vI 0], obs := [], outs := [] })) (br (i == 5) (R (some { av := AV.tup [vS (xs.getD (↑(bsB xs t) : Int).toNat (edflt kb)).snd.snd.snd.snd.snd.snd.snd.snd.fst, vI 0], obs := [], outs := [] })) (br (i == 6) (R (some { av := AV.tup [vS (xs.getD (↑(bsB xs t) : Int).toNat (edflt kb)).snd.snd.snd.snd.snd.snd.snd.snd.snd.fst, vI 0], obs := [], outs := [] })) (br (i == 7) (R (some { av := AV.tup [vS (xs.getD (↑(bsB xs t) : Int).toNat (edflt kb)).snd.snd.snd.snd.snd.snd.snd.snd.snd.snd.fst, vI 0], obs := [], outs := [] })) False)))))))) False)) False))) False) := by kernel_rfl
theorem h38 : G1Ok Tryd.prog 38 g37 := by
  intro args obs k h
  unfold g37 at h
  split at h
  · rename_i k xs t i
    obtain ⟨hs, h⟩ := br_and h
    have hlen := smB_len hs
    refine ⟨_, ctr_fn okf hg38 Tryd.func38 (by kernel_rfl) (by kernel_rfl) (by kernel_rfl) fun C => ?_, h⟩
    rw [e38]
    refine br_t hs (br_not (fun h1 => ?_) (fun h1 => br_not (fun hi => ?_) (fun hi => br_yes hlen ?_)))
    · show _ = _
      rw [getB_b h1]
      rfl
    · show _ = _
      rw [getB_i hi]
      rfl
    · rw [bkB_ok h1, bsB_ln h1]
      refine br_not (fun h4 => ?_) (fun h4 => br_yes ⟨by omega, by have := okB_lt h4; omega⟩ ?_)
      · show _ = _
        rw [getB_n h1 hi h4]
        rfl
      rw [Int.toNat_natCast, getB_t h1 hi h4]
      rcases eight hi with rfl | rfl | rfl | rfl | rfl | rfl | rfl | rfl
      all_goals
        repeat (first | refine br_t rfl ?_ | refine br_f rfl ?_)
        rfl
  · exact h.elim
noncomputable def E11 : Env := Ef.of Tryd.f11
noncomputable def G11 : Gk := gk [(32, g32), (34, g34), (36, g36), (37, g37), (38, g37)]
noncomputable def lp11 (n : Nat) : Code := (loopOf n (codeOf Tryd.f11)).getD .skip
noncomputable def ct11 (L : Lp) (R : Option Res → Prop) (n : Nat) : Kt := contOf E11 G11 L n (codeOf Tryd.f11) (endK E11 Tryd.f11.results.toList R)
noncomputable def rk11 (L : Lp) (R : Option Res → Prop) (n : Nat) (N : St → Prop) : Kt := rk (jof E11 (lp11 n)) N (ct11 L R n)
noncomputable def rkn11 (L : Lp) (R : Option Res → Prop) (n : Nat) (N : St → Prop) (m : Nat) (N2 : St → Prop) : Kt := rk (jof E11 (lp11 m)) N2 (contOf E11 G11 L m (lp11 n) (rk11 L R n N))
noncomputable def LOOPN11 (L : Lp) (R : Option Res → Prop) (n : Nat) (N : St → Prop) (m : Nat) (st : St) : Prop := L (lp11 m) st (contOf E11 G11 L m (lp11 n) (rk11 L R n N))
noncomputable def LOOP11 (L : Lp) (R : Option Res → Prop) (n : Nat) (st : St) : Prop := L (lp11 n) st (ct11 L R n)
theorem hg11 : HG Tryd.prog G11 := (hg_cons h32 (hg_cons h34 (hg_cons h36 (hg_cons h37 (hg_cons h38 hg_nil)))))
theorem okf11 : Ok Tryd.prog E11 := okf.of Tryd.f11
theorem e11 (L : Lp) (R : Option Res → Prop) (xs : List (Elem kb)) (t : ByteArray) (i : Int) : (bodyP Ef G11 L Tryd.f11 [.agg [.rsl kb xs], .val (.string t), .val (.int .i64 i)] [] R) = (
    br (decide ((↑t.size : Int) > 1048576)) (R (some { av := vB true, obs := [], outs := [] })) (br (inBs xs && true) (br (decide (szR 1048576 (szBs xs) < 0)) (R (some { av := vB true, obs := [], outs := [] })) (br (decide (xs.length ≤ 1048576)) (br (smB xs) (br (decide (xs.length ≤ 1048576)) (br (smB xs) (br (!strEq (getB xs t i).fst (getB xs t i).fst) (R (some { av := vB false, obs := [], outs := [] })) (br ((getB xs t i).snd != (getB xs t i).snd) (R (some { av := vB false, obs := [], outs := [] })) (br (decide (xs.length ≤ 1048576)) (br (decide (xs.length ≤ 1048576)) (br (!eqR kb xs xs) (R (some { av := vB false, obs := [], outs := [] })) (R (some { av := vB true, obs := [], outs := [] }))) False) False))) False) False) False) False)) False)) := by kernel_rfl
theorem c11 (xs : List (Elem kb)) (t : ByteArray) (i : Int) (hx : xs.length ≤ maxLen ∧ ∀ e ∈ xs, elemOk kb e) : Ctr Tryd.prog 11 [.agg [.rsl kb xs], .val (.string t), .val (.int .i64 i)] [] ⟨.val (.bool true), [], []⟩ := by
  refine ctr_fn okf hg11 Tryd.func11 (by kernel_rfl) (by kernel_rfl) (by kernel_rfl) fun C => ?_
  rw [e11, inBs_of hx, eqR_self]
  refine br_dec (fun _ => rfl) (fun h0 => br_t rfl (br_dec (fun _ => rfl) (fun h1 => ?_)))
  have h1' := szR_ge0 h1
  have hs : smB xs = true := smB_of (by omega)
  have hl := smB_len hs
  rw [hs, strEq_self]
  refine br_yes hl (br_t rfl (br_yes hl (br_t rfl (br_f rfl (br_bne (fun h => ?_) (fun _ => br_yes hl (br_yes hl rfl)))))))
  simp at h
end Go.Proofs.YtljilcingbohkaaDoor.Ev
