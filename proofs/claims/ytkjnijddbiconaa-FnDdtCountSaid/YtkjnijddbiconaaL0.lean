/- Disks that are written. -/
import Derived.Test.YtkjnijddbiconaaK
namespace Go.Proofs.Ytkjnijddbiconaa.Ev
open Go
set_option linter.unusedVariables false
set_option linter.unusedSimpArgs false
set_option maxRecDepth 100000
def g48 : G1
  | [.agg [.rsl [.str] a, .rsl [.str] b, .rsl [.int .i64, .int .i64, .str] c]], [], k => br (smD a b c) (k ⟨.agg [.ows 0, .ows 1, .ows 2], [.row ks a, .row ks b, .row kl c], []⟩) False
  | _, _, _ => False
def dwG (a b : List (Elem ks)) (c : List (Elem kl)) (s i : Int) (t : ByteArray) (n : Nat) : Bool := dkOk a b c && (decide (c.length < n) && (secOk a.length s i && decide (t.size ≤ 420)))
def g49 : G1
  | [.agg [.rsl [.str] a, .rsl [.str] b, .rsl [.int .i64, .int .i64, .str] c], .val (.int .i64 s), .val (.int .i64 i), .val (.string t)], [], k =>
    br (dwG a b c s i t 600) (k ⟨.tup [.agg [.ows 0, .ows 1, .ows 2], .val (.bool true)], [.row ks a, .row ks b, .row kl (c ++ [(s, i, t, ())])], []⟩) False
  | _, _, _ => False
def g40 : G1
  | [.agg [.rsl [.str] a, .rsl [.str] b, .rsl [.int .i64, .int .i64, .str] c], .val (.int .i64 i), .val (.string t)], [], k =>
    br (dwG a b c 0 i t 599) (k ⟨.tup [.agg [.ows 0, .ows 1, .ows 2], .val (.bool true)], [.row ks a, .row ks b, .row kl (c ++ [(0, i, t, ())] ++ [(1, i, t, ())])], []⟩) False
  | _, _, _ => False
def g37 : G1
  | [.val (.int .i64 n)], [], k => br (decide (1 ≤ n ∧ n ≤ 120)) (k ⟨.agg [.ows 0, .ows 1, .ows 2], [.row ks (List.replicate n.toNat (edflt ks)), .row ks (List.replicate n.toNat (edflt ks)), .row kl []], []⟩) False
  | _, _, _ => False
theorem dkOk_app {a b : List (Elem ks)} {c : List (Elem kl)} {s i : Int} {t : ByteArray} {n : Nat} (h : dwG a b c s i t n = true) (hn : n ≤ 600) : dkOk a b (c ++ [(s, i, t, ())]) = true := by
  unfold dwG at h
  rw [Bool.and_eq_true, Bool.and_eq_true, Bool.and_eq_true, decide_eq_true_eq, decide_eq_true_eq] at h
  obtain ⟨hd, hc, hs, ht⟩ := h
  have hb : anyBad a.length (c ++ [(s, i, t, ())]) = false := by
    simp only [dkOk, Bool.and_eq_true, Bool.not_eq_true'] at hd
    have h0 := hd.2
    unfold anyBad at h0 ⊢
    refine anyB_f fun j hj => ?_
    rw [List.length_append] at hj
    have hj : j < c.length + 1 := hj
    rw [List.getD_eq_getElem?_getD]
    by_cases hlt : j < c.length
    · rw [List.getElem?_append_left hlt, ← List.getD_eq_getElem?_getD]
      cases hx : badL a.length (c.getD j (edflt kl)) with
      | false => rfl
      | true => rw [anyB_t (i := j) hlt hx] at h0; cases h0
    · have : j = c.length := by omega
      subst this
      rw [List.getElem?_append_right (Nat.le_refl _), Nat.sub_self]
      show badL a.length (s, i, t, ()) = false
      unfold badL
      rw [hs, decide_eq_false (show ¬ ((t.size : Int) > 420) by omega)]
      rfl
  simp only [dkOk, Bool.and_eq_true, Bool.not_eq_true', decide_eq_true_eq] at hd ⊢
  obtain ⟨⟨⟨⟨⟨⟨h1, h2⟩, h3⟩, h4⟩, h5⟩, h6⟩, h7⟩ := hd
  refine ⟨⟨⟨⟨⟨⟨h1, h2⟩, h3⟩, ?_⟩, h5⟩, h6⟩, hb⟩
  rw [List.length_append]
  show c.length + 1 ≤ 600
  omega
theorem dwG_sm {a b : List (Elem ks)} {c : List (Elem kl)} {s i : Int} {t : ByteArray} {n : Nat} (h : dwG a b c s i t n = true) : smD a b c = true ∧ dkOk a b c = true ∧ c.length < n ∧ secOk a.length s i = true ∧ t.size ≤ 420 := by
  unfold dwG at h
  rw [Bool.and_eq_true, Bool.and_eq_true, Bool.and_eq_true, decide_eq_true_eq, decide_eq_true_eq] at h
  obtain ⟨hd, hc, hs, ht⟩ := h
  obtain ⟨q1, q2, q3⟩ := dkOk_b hd
  refine ⟨?_, hd, hc, hs, ht⟩
  unfold smD
  rw [decide_eq_true (by omega), decide_eq_true (by omega), decide_eq_true (by omega)]
  rfl
theorem dwG_next {a b : List (Elem ks)} {c : List (Elem kl)} {i : Int} {t : ByteArray} (h : dwG a b c 0 i t 599 = true) : dwG a b c 0 i t 600 = true ∧ dwG a b (c ++ [(0, i, t, ())]) 1 i t 600 = true := by
  obtain ⟨_, h1, h2, h3, h4⟩ := dwG_sm h
  have hz := dkOk_app h (by omega)
  have h5 : secOk a.length 1 i = true := by
    simp only [secOk, Bool.and_eq_true, decide_eq_true_eq] at h3 ⊢
    omega
  have hl : decide ((c ++ [((0 : Int), i, t, ())] : List (Elem kl)).length < 600) = true := decide_eq_true (by rw [List.length_append]; show c.length + 1 < 600; omega)
  have hl' : decide (c.length < 600) = true := decide_eq_true (by omega)
  unfold dwG
  refine ⟨?_, ?_⟩
  · rw [h1, h3, decide_eq_true h4, hl']
    rfl
  · rw [hz, h5, decide_eq_true h4]
    rw [hl]
    rfl
noncomputable def E48 : Env := E0.of Try.f48
noncomputable def G48 : Gk := gk []
noncomputable def lp48 (n : Nat) : Code := (loopOf n (codeOf Try.f48)).getD .skip
noncomputable def ct48 (L : Lp) (R : Option Res → Prop) (n : Nat) : Kt := contOf E48 G48 L n (codeOf Try.f48) (endK E48 Try.f48.results.toList R)
noncomputable def rk48 (L : Lp) (R : Option Res → Prop) (n : Nat) (N : St → Prop) : Kt := rk (jof E48 (lp48 n)) N (ct48 L R n)
noncomputable def rkn48 (L : Lp) (R : Option Res → Prop) (n : Nat) (N : St → Prop) (m : Nat) (N2 : St → Prop) : Kt := rk (jof E48 (lp48 m)) N2 (contOf E48 G48 L m (lp48 n) (rk48 L R n N))
noncomputable def LOOPN48 (L : Lp) (R : Option Res → Prop) (n : Nat) (N : St → Prop) (m : Nat) (st : St) : Prop := L (lp48 m) st (contOf E48 G48 L m (lp48 n) (rk48 L R n N))
noncomputable def LOOP48 (L : Lp) (R : Option Res → Prop) (n : Nat) (st : St) : Prop := L (lp48 n) st (ct48 L R n)
theorem hg48 : HG Try.prog G48 := hg_nil
theorem okf48 : Ok Try.prog E48 := ok0.of Try.f48
theorem e48 (L : Lp) (R : Option Res → Prop) (a b : List (Elem ks)) (c : List (Elem kl)) : (bodyP E0 G48 L Try.f48 [.agg [.rsl ks a, .rsl ks b, .rsl kl c]] [] R) = (
    br (decide ((0 + a.length) * 16 ≤ 140737488355328)) (br (decide ((0 + b.length) * 16 ≤ 140737488355328)) (br (decide ((0 + c.length) * 32 ≤ 140737488355328)) (R (some { av := AV.agg [AV.ows 0, AV.ows 1, AV.ows 2], obs := [AO.row ks ([] ++ a), AO.row ks ([] ++ b), AO.row kl ([] ++ c)], outs := [] })) False) False) False) := by kernel_rfl
theorem h48 : G1Ok Try.prog 48 g48 := by
  intro args obs k h
  unfold g48 at h
  split at h
  · rename_i k a b c
    obtain ⟨hp, h⟩ := br_and h
    simp only [smD, Bool.and_eq_true, decide_eq_true_eq] at hp
    refine ⟨_, ctr_fn ok0 hg48 Try.func48 (by kernel_rfl) (by kernel_rfl) (by kernel_rfl) fun C => ?_, h⟩
    rw [e48]
    exact br_yes (by omega) (br_yes (by omega) (br_yes (by omega) rfl))
  · exact h.elim
noncomputable def E49 : Env := E0.of Try.f49
noncomputable def G49 : Gk := gk [(47, g47), (48, g48), (50, g50)]
noncomputable def lp49 (n : Nat) : Code := (loopOf n (codeOf Try.f49)).getD .skip
noncomputable def ct49 (L : Lp) (R : Option Res → Prop) (n : Nat) : Kt := contOf E49 G49 L n (codeOf Try.f49) (endK E49 Try.f49.results.toList R)
noncomputable def rk49 (L : Lp) (R : Option Res → Prop) (n : Nat) (N : St → Prop) : Kt := rk (jof E49 (lp49 n)) N (ct49 L R n)
noncomputable def rkn49 (L : Lp) (R : Option Res → Prop) (n : Nat) (N : St → Prop) (m : Nat) (N2 : St → Prop) : Kt := rk (jof E49 (lp49 m)) N2 (contOf E49 G49 L m (lp49 n) (rk49 L R n N))
noncomputable def LOOPN49 (L : Lp) (R : Option Res → Prop) (n : Nat) (N : St → Prop) (m : Nat) (st : St) : Prop := L (lp49 m) st (contOf E49 G49 L m (lp49 n) (rk49 L R n N))
noncomputable def LOOP49 (L : Lp) (R : Option Res → Prop) (n : Nat) (st : St) : Prop := L (lp49 n) st (ct49 L R n)
theorem hg49 : HG Try.prog G49 := (hg_cons h47 (hg_cons h48 (hg_cons h50 hg_nil)))
theorem okf49 : Ok Try.prog E49 := ok0.of Try.f49
theorem e49 (L : Lp) (R : Option Res → Prop) (a b : List (Elem ks)) (c : List (Elem kl)) (s i : Int) (t : ByteArray) : (bodyP E0 G49 L Try.f49 [.agg [.rsl ks a, .rsl ks b, .rsl kl c], .val (.int .i64 s), .val (.int .i64 i), .val (.string t)] [] R) = (
    br (smD a b c) (br (!dkOk a b c) (R (some { av := AV.tup [AV.agg [AV.ows 0, AV.ows 1, AV.ows 2], vB false], obs := [AO.row ks [], AO.row ks [], AO.row kl []], outs := [] })) (br (smD a b c) (br (!(secOk a.length s i && decide ((↑t.size : Int) ≤ 420))) (R (some { av := AV.tup [AV.agg [AV.ows 0, AV.ows 1, AV.ows 2], vB false], obs := [AO.row ks a, AO.row ks b, AO.row kl c], outs := [] })) (br ((↑c.length : Int) == 600) (R (some { av := AV.tup [AV.agg [AV.ows 0, AV.ows 1, AV.ows 2], vB false], obs := [AO.row ks a, AO.row ks b, AO.row kl c], outs := [] })) (br (decide ((c.length + [(s, i, t, ())].length) * 32 ≤ 140737488355328)) (R (some { av := AV.tup [AV.agg [AV.ows 0, AV.ows 1, AV.ows 2], vB true], obs := [AO.row ks a, AO.row ks b, AO.row kl (c ++ [(s, i, t, ())])], outs := [] })) False))) False)) False) := by kernel_rfl
theorem h49 : G1Ok Try.prog 49 g49 := by
  intro args obs k h
  unfold g49 at h
  split at h
  · rename_i k a b c s i t
    obtain ⟨hp, h⟩ := br_and h
    obtain ⟨h1, h2, h3, h4, h5⟩ := dwG_sm hp
    refine ⟨_, ctr_fn ok0 hg49 Try.func49 (by kernel_rfl) (by kernel_rfl) (by kernel_rfl) fun C => ?_, h⟩
    rw [e49]
    refine br_t h1 (br_f (by rw [h2]; rfl) (br_t h1 (br_f (by rw [h4, decide_eq_true (show (t.size : Int) ≤ 420 by omega)]; rfl) (br_f (by simp; omega) (br_yes ?_ rfl)))))
    show (c.length + 1) * 32 ≤ _
    omega
  · exact h.elim
noncomputable def E40 : Env := E0.of Try.f40
noncomputable def G40 : Gk := gk [(47, g47), (48, g48), (49, g49)]
noncomputable def lp40 (n : Nat) : Code := (loopOf n (codeOf Try.f40)).getD .skip
noncomputable def ct40 (L : Lp) (R : Option Res → Prop) (n : Nat) : Kt := contOf E40 G40 L n (codeOf Try.f40) (endK E40 Try.f40.results.toList R)
noncomputable def rk40 (L : Lp) (R : Option Res → Prop) (n : Nat) (N : St → Prop) : Kt := rk (jof E40 (lp40 n)) N (ct40 L R n)
noncomputable def rkn40 (L : Lp) (R : Option Res → Prop) (n : Nat) (N : St → Prop) (m : Nat) (N2 : St → Prop) : Kt := rk (jof E40 (lp40 m)) N2 (contOf E40 G40 L m (lp40 n) (rk40 L R n N))
noncomputable def LOOPN40 (L : Lp) (R : Option Res → Prop) (n : Nat) (N : St → Prop) (m : Nat) (st : St) : Prop := L (lp40 m) st (contOf E40 G40 L m (lp40 n) (rk40 L R n N))
noncomputable def LOOP40 (L : Lp) (R : Option Res → Prop) (n : Nat) (st : St) : Prop := L (lp40 n) st (ct40 L R n)
theorem hg40 : HG Try.prog G40 := (hg_cons h47 (hg_cons h48 (hg_cons h49 hg_nil)))
theorem okf40 : Ok Try.prog E40 := ok0.of Try.f40
theorem e40 (L : Lp) (R : Option Res → Prop) (a b : List (Elem ks)) (c : List (Elem kl)) (i : Int) (t : ByteArray) : (bodyP E0 G40 L Try.f40 [.agg [.rsl ks a, .rsl ks b, .rsl kl c], .val (.int .i64 i), .val (.string t)] [] R) = (
    br (smD a b c) (br (!dkOk a b c) (R (some { av := AV.tup [AV.agg [AV.ows 0, AV.ows 1, AV.ows 2], vB false], obs := [AO.row ks [], AO.row ks [], AO.row kl []], outs := [] })) (br (decide ((↑c.length : Int) > 598)) (br (smD a b c) (R (some { av := AV.tup [AV.agg [AV.ows 0, AV.ows 1, AV.ows 2], vB false], obs := [AO.row ks a, AO.row ks b, AO.row kl c], outs := [] })) False) (br (dwG a b c 0 i t 600) (br (dwG a b (c ++ [(0, i, t, ())]) 1 i t 600) (R (some { av := AV.tup [AV.agg [AV.ows 0, AV.ows 1, AV.ows 2], vB true], obs := [AO.row ks a, AO.row ks b, AO.row kl (c ++ [(0, i, t, ())] ++ [(1, i, t, ())])], outs := [] })) False) False))) False) := by kernel_rfl
theorem h40 : G1Ok Try.prog 40 g40 := by
  intro args obs k h
  unfold g40 at h
  split at h
  · rename_i k a b c i t
    obtain ⟨hp, h⟩ := br_and h
    obtain ⟨h1, h2, h3, h4, h5⟩ := dwG_sm hp
    obtain ⟨n1, n2⟩ := dwG_next hp
    refine ⟨_, ctr_fn ok0 hg40 Try.func40 (by kernel_rfl) (by kernel_rfl) (by kernel_rfl) fun C => ?_, h⟩
    rw [e40]
    exact br_t h1 (br_f (by rw [h2]; rfl) (br_no (by omega) (br_t n1 (br_t n2 rfl))))
  · exact h.elim
noncomputable def E37 : Env := E0.of Try.f37
noncomputable def G37 : Gk := gk []
noncomputable def lp37 (n : Nat) : Code := (loopOf n (codeOf Try.f37)).getD .skip
noncomputable def ct37 (L : Lp) (R : Option Res → Prop) (n : Nat) : Kt := contOf E37 G37 L n (codeOf Try.f37) (endK E37 Try.f37.results.toList R)
noncomputable def rk37 (L : Lp) (R : Option Res → Prop) (n : Nat) (N : St → Prop) : Kt := rk (jof E37 (lp37 n)) N (ct37 L R n)
noncomputable def rkn37 (L : Lp) (R : Option Res → Prop) (n : Nat) (N : St → Prop) (m : Nat) (N2 : St → Prop) : Kt := rk (jof E37 (lp37 m)) N2 (contOf E37 G37 L m (lp37 n) (rk37 L R n N))
noncomputable def LOOPN37 (L : Lp) (R : Option Res → Prop) (n : Nat) (N : St → Prop) (m : Nat) (st : St) : Prop := L (lp37 m) st (contOf E37 G37 L m (lp37 n) (rk37 L R n N))
noncomputable def LOOP37 (L : Lp) (R : Option Res → Prop) (n : Nat) (st : St) : Prop := L (lp37 n) st (ct37 L R n)
theorem hg37 : HG Try.prog G37 := hg_nil
theorem okf37 : Ok Try.prog E37 := ok0.of Try.f37
theorem e37 (L : Lp) (R : Option Res → Prop) (n : Int) : (bodyP E0 G37 L Try.f37 [.val (.int .i64 n)] [] R) = (
    br (decide (n < 1)) (R (some { av := AV.agg [AV.ows 0, AV.ows 1, AV.ows 2], obs := [AO.row ks [], AO.row ks [], AO.row kl []], outs := [] })) (br (decide (n > 120)) (R (some { av := AV.agg [AV.ows 0, AV.ows 1, AV.ows 2], obs := [AO.row ks [], AO.row ks [], AO.row kl []], outs := [] })) (br (decide (0 ≤ n ∧ n ≤ n ∧ 16 * n ≤ 281474976710656)) (br (decide (0 ≤ n ∧ n ≤ n ∧ 16 * n ≤ 281474976710656)) (R (some { av := AV.agg [AV.ows 0, AV.ows 1, AV.ows 2], obs := [AO.row ks (List.replicate n.toNat (edflt ks)), AO.row ks (List.replicate n.toNat (edflt ks)), AO.row kl []], outs := [] })) False) False))) := by kernel_rfl
theorem h37 : G1Ok Try.prog 37 g37 := by
  intro args obs k h
  unfold g37 at h
  split at h
  · rename_i k n
    obtain ⟨hn, h⟩ := brd h
    refine ⟨_, ctr_fn ok0 hg37 Try.func37 (by kernel_rfl) (by kernel_rfl) (by kernel_rfl) fun C => ?_, h⟩
    rw [e37]
    exact br_no (by omega) (br_no (by omega) (br_yes (by omega) (br_yes (by omega) rfl)))
  · exact h.elim
end Go.Proofs.Ytkjnijddbiconaa.Ev
