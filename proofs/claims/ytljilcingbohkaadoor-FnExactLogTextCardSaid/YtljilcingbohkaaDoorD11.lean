/- The law of LogText. -/
import Derived.Test.YtljilcingbohkaaDoorD10
import Derived.Test.YtljilcingbohkaaDoorDS
namespace Go.Proofs.YtljilcingbohkaaDoor.Ev
open Go
set_option linter.unusedVariables false
set_option linter.unusedSimpArgs false
set_option maxRecDepth 100000
def g74 : G1
  | [.agg [.val (.int .i64 n), .val (.string a), .val (.string b), .val (.int .i64 i), .val (.string t)]], [], k => k ⟨.agg [.val (.int .i64 n), .val (.string a), .val (.string b), .val (.int .i64 i), .val (.string t)], [], []⟩
  | _, _, _ => False
def g41 : G1
  | [.agg [.val (.int .i64 x), .val (.int .i64 q), .val (.int .i64 n), .val (.string a), .val (.string b), .val (.int .i64 i), .val (.string t)]], [], k => k ⟨lgA x q n a b i t, [], []⟩
  | _, _, _ => False
def g72 : G1
  | [.agg [.val (.int .i64 n), .val (.string a), .val (.string b), .val (.int .i64 i), .val (.string t)], .val (.int .i64 l)], [], k => br (inS a && inS b && inS t && inL l) (k ⟨.val (.int .i64 (szR l (a.size + b.size + t.size))), [], []⟩) False
  | _, _, _ => False
def g39 : G1
  | [.agg [.val (.int .i64 x), .val (.int .i64 q), .val (.int .i64 n), .val (.string a), .val (.string b), .val (.int .i64 i), .val (.string t)], .val (.int .i64 l)], [], k => br (inS a && inS b && inS t && inL l) (k ⟨.val (.int .i64 (szR l (a.size + b.size + t.size))), [], []⟩) False
  | _, _, _ => False
noncomputable def E74 : Env := E0.of Tryd.f74
noncomputable def G74 : Gk := gk []
noncomputable def lp74 (n : Nat) : Code := (loopOf n (codeOf Tryd.f74)).getD .skip
noncomputable def ct74 (L : Lp) (R : Option Res → Prop) (n : Nat) : Kt := contOf E74 G74 L n (codeOf Tryd.f74) (endK E74 Tryd.f74.results.toList R)
noncomputable def rk74 (L : Lp) (R : Option Res → Prop) (n : Nat) (N : St → Prop) : Kt := rk (jof E74 (lp74 n)) N (ct74 L R n)
noncomputable def LOOP74 (L : Lp) (R : Option Res → Prop) (n : Nat) (st : St) : Prop := L (lp74 n) st (ct74 L R n)
theorem hg74 : HG Tryd.prog G74 := hg_nil
theorem okf74 : Ok Tryd.prog E74 := ok0.of Tryd.f74
theorem e74 (L : Lp) (R : Option Res → Prop) (n : Int) (a b : ByteArray) (i : Int) (t : ByteArray) : (bodyP E0 G74 L Tryd.f74 [.agg [.val (.int .i64 n), .val (.string a), .val (.string b), .val (.int .i64 i), .val (.string t)]] [] R) = (
    R (some { av := AV.agg [vI n, vS a, vS b, vI i, vS t], obs := [], outs := [] })) := by kernel_rfl
theorem h74 : G1Ok Tryd.prog 74 g74 := by
  intro args obs k h
  unfold g74 at h
  split at h
  · rename_i k n a b i t
    refine ⟨_, ctr_fn ok0 hg74 Tryd.func74 (by kernel_rfl) (by kernel_rfl) (by kernel_rfl) fun C => ?_, h⟩
    rw [e74]
  · exact h.elim
noncomputable def E41 : Env := E0.of Tryd.f41
noncomputable def G41 : Gk := gk [(74, g74)]
noncomputable def lp41 (n : Nat) : Code := (loopOf n (codeOf Tryd.f41)).getD .skip
noncomputable def ct41 (L : Lp) (R : Option Res → Prop) (n : Nat) : Kt := contOf E41 G41 L n (codeOf Tryd.f41) (endK E41 Tryd.f41.results.toList R)
noncomputable def rk41 (L : Lp) (R : Option Res → Prop) (n : Nat) (N : St → Prop) : Kt := rk (jof E41 (lp41 n)) N (ct41 L R n)
noncomputable def LOOP41 (L : Lp) (R : Option Res → Prop) (n : Nat) (st : St) : Prop := L (lp41 n) st (ct41 L R n)
theorem hg41 : HG Tryd.prog G41 := (hg_cons h74 hg_nil)
theorem okf41 : Ok Tryd.prog E41 := ok0.of Tryd.f41
theorem e41 (L : Lp) (R : Option Res → Prop) (x q n : Int) (a b : ByteArray) (i : Int) (t : ByteArray) : (bodyP E0 G41 L Tryd.f41 [lgA x q n a b i t] [] R) = (
    R (some { av := AV.agg [vI x, vI q, vI n, vS a, vS b, vI i, vS t], obs := [], outs := [] })) := by kernel_rfl
theorem h41 : G1Ok Tryd.prog 41 g41 := by
  intro args obs k h
  unfold g41 at h
  split at h
  · rename_i k x q n a b i t
    refine ⟨_, ctr_fn ok0 hg41 Tryd.func41 (by kernel_rfl) (by kernel_rfl) (by kernel_rfl) fun C => ?_, h⟩
    rw [e41]
  · exact h.elim
noncomputable def E72 : Env := E0.of Tryd.f72
noncomputable def G72 : Gk := gk []
noncomputable def lp72 (n : Nat) : Code := (loopOf n (codeOf Tryd.f72)).getD .skip
noncomputable def ct72 (L : Lp) (R : Option Res → Prop) (n : Nat) : Kt := contOf E72 G72 L n (codeOf Tryd.f72) (endK E72 Tryd.f72.results.toList R)
noncomputable def rk72 (L : Lp) (R : Option Res → Prop) (n : Nat) (N : St → Prop) : Kt := rk (jof E72 (lp72 n)) N (ct72 L R n)
noncomputable def LOOP72 (L : Lp) (R : Option Res → Prop) (n : Nat) (st : St) : Prop := L (lp72 n) st (ct72 L R n)
theorem hg72 : HG Tryd.prog G72 := hg_nil
theorem okf72 : Ok Tryd.prog E72 := ok0.of Tryd.f72
theorem e72 (L : Lp) (R : Option Res → Prop) (n : Int) (a b : ByteArray) (i : Int) (t : ByteArray) (l : Int) : (bodyP E0 G72 L Tryd.f72 [.agg [.val (.int .i64 n), .val (.string a), .val (.string b), .val (.int .i64 i), .val (.string t)], .val (.int .i64 l)] [] R) = (
    br (decide (IntKind.i64.wrap (l - (↑a.size : Int)) < 0)) (R (some { av := vI (-1), obs := [], outs := [] })) (br (decide (IntKind.i64.wrap (IntKind.i64.wrap (l - (↑a.size : Int)) - (↑b.size : Int)) < 0)) (R (some { av := vI (-1), obs := [], outs := [] })) (br (decide (IntKind.i64.wrap (IntKind.i64.wrap (IntKind.i64.wrap (l - (↑a.size : Int)) - (↑b.size : Int)) - (↑t.size : Int)) < 0)) (R (some { av := vI (-1), obs := [], outs := [] })) (R (some { av := vI (IntKind.i64.wrap (IntKind.i64.wrap (IntKind.i64.wrap (l - (↑a.size : Int)) - (↑b.size : Int)) - (↑t.size : Int))), obs := [], outs := [] }))))) := by kernel_rfl
theorem h72 : G1Ok Tryd.prog 72 g72 := by
  intro args obs k h
  unfold g72 at h
  split at h
  · rename_i k n a b i t l
    obtain ⟨hp, h⟩ := br_and h
    simp only [inL, inS, Bool.and_eq_true, decide_eq_true_eq] at hp
    refine ⟨_, ctr_fn ok0 hg72 Tryd.func72 (by kernel_rfl) (by kernel_rfl) (by kernel_rfl) fun C => ?_, h⟩
    rw [e72]
    rw [wrap_id (n := l - a.size) (by omega) (by omega)]
    refine br_dec (fun h => ?_) (fun h => ?_)
    · show _ = _
      rw [szR_neg (by omega)]
    rw [wrap_id (n := l - a.size - b.size) (by omega) (by omega)]
    refine br_dec (fun h => ?_) (fun h => ?_)
    · show _ = _
      rw [szR_neg (by omega)]
    rw [wrap_id (n := l - a.size - b.size - t.size) (by omega) (by omega)]
    refine br_dec (fun h => ?_) (fun h => ?_)
    · show _ = _
      rw [szR_neg (by omega)]
    · show _ = _
      rw [szR_pos (by omega)]
      exact resI (by omega)
  · exact h.elim
noncomputable def E39 : Env := E0.of Tryd.f39
noncomputable def G39 : Gk := gk [(72, g72)]
noncomputable def lp39 (n : Nat) : Code := (loopOf n (codeOf Tryd.f39)).getD .skip
noncomputable def ct39 (L : Lp) (R : Option Res → Prop) (n : Nat) : Kt := contOf E39 G39 L n (codeOf Tryd.f39) (endK E39 Tryd.f39.results.toList R)
noncomputable def rk39 (L : Lp) (R : Option Res → Prop) (n : Nat) (N : St → Prop) : Kt := rk (jof E39 (lp39 n)) N (ct39 L R n)
noncomputable def LOOP39 (L : Lp) (R : Option Res → Prop) (n : Nat) (st : St) : Prop := L (lp39 n) st (ct39 L R n)
theorem hg39 : HG Tryd.prog G39 := (hg_cons h72 hg_nil)
theorem okf39 : Ok Tryd.prog E39 := ok0.of Tryd.f39
theorem e39 (L : Lp) (R : Option Res → Prop) (x q n : Int) (a b : ByteArray) (i : Int) (t : ByteArray) (l : Int) : (bodyP E0 G39 L Tryd.f39 [lgA x q n a b i t, .val (.int .i64 l)] [] R) = (
    br (inS a && inS b && inS t && inL l) (br (decide (szR l (a.size + b.size + t.size) < 0)) (R (some { av := vI (-1), obs := [], outs := [] })) (R (some { av := vI (szR l (a.size + b.size + t.size)), obs := [], outs := [] }))) False) := by kernel_rfl
theorem h39 : G1Ok Tryd.prog 39 g39 := by
  intro args obs k h
  unfold g39 at h
  split at h
  · rename_i k x q n a b i t l
    obtain ⟨hp, h⟩ := br_and h
    refine ⟨_, ctr_fn ok0 hg39 Tryd.func39 (by kernel_rfl) (by kernel_rfl) (by kernel_rfl) fun C => ?_, h⟩
    rw [e39]
    refine br_t hp (br_dec (fun h => ?_) (fun h => rfl))
    show _ = _
    rw [szR_neg (szR_lt0 h)]
  · exact h.elim
noncomputable def E12 : Env := E0.of Tryd.f12
noncomputable def G12 : Gk := gk [(39, g39), (40, g40), (41, g41), (42, g40)]
noncomputable def lp12 (n : Nat) : Code := (loopOf n (codeOf Tryd.f12)).getD .skip
noncomputable def ct12 (L : Lp) (R : Option Res → Prop) (n : Nat) : Kt := contOf E12 G12 L n (codeOf Tryd.f12) (endK E12 Tryd.f12.results.toList R)
noncomputable def rk12 (L : Lp) (R : Option Res → Prop) (n : Nat) (N : St → Prop) : Kt := rk (jof E12 (lp12 n)) N (ct12 L R n)
noncomputable def LOOP12 (L : Lp) (R : Option Res → Prop) (n : Nat) (st : St) : Prop := L (lp12 n) st (ct12 L R n)
theorem hg12 : HG Tryd.prog G12 := (hg_cons h39 (hg_cons h40 (hg_cons h41 (hg_cons h42 hg_nil))))
theorem okf12 : Ok Tryd.prog E12 := ok0.of Tryd.f12
theorem e12 (L : Lp) (R : Option Res → Prop) (x q n : Int) (a b : ByteArray) (i : Int) (t : ByteArray) : (bodyP E0 G12 L Tryd.f12 [lgA x q n a b i t] [] R) = (
    br (inS a && inS b && inS t && true) (br (decide (szR 1048576 (a.size + b.size + t.size) < 0)) (R (some { av := vB true, obs := [], outs := [] })) (br (decide (a.size ≤ 1048576)) (br (decide (a.size ≤ 1048576)) (br (!strEq (logT x q n a b i t) (logT x q n a b i t)) (R (some { av := vB false, obs := [], outs := [] })) (R (some { av := vB true, obs := [], outs := [] }))) False) False)) False) := by kernel_rfl
theorem c12 (x q n : Int) (a b : ByteArray) (i : Int) (t : ByteArray) (ha : a.size ≤ maxLen) (hb : b.size ≤ maxLen) (ht : t.size ≤ maxLen) : Ctr Tryd.prog 12 [lgA x q n a b i t] [] ⟨.val (.bool true), [], []⟩ := by
  have ha' : a.size ≤ 9223372036854775807 := ha
  have hb' : b.size ≤ 9223372036854775807 := hb
  have ht' : t.size ≤ 9223372036854775807 := ht
  refine ctr_fn ok0 hg12 Tryd.func12 (by kernel_rfl) (by kernel_rfl) (by kernel_rfl) fun C => ?_
  rw [e12]
  refine br_t (by simp only [inS, decide_eq_true ha', decide_eq_true hb', decide_eq_true ht', Bool.and_self]) (br_dec (fun _ => rfl) (fun h => ?_))
  have h1 := szR_ge0 h
  have hd : decide (a.size ≤ 1048576) = true := decide_eq_true (by omega)
  refine br_t hd (br_t hd (br_not (fun h => ?_) (fun _ => rfl)))
  rw [strEq_self] at h
  cases h
end Go.Proofs.YtljilcingbohkaaDoor.Ev
