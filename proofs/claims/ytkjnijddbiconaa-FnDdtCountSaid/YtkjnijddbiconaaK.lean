/- Disks that are drawn. -/
import Derived.Test.YtkjnijddbiconaaR0
import Derived.Test.YtkjnijddbiconaaD1
namespace Go.Proofs.Ytkjnijddbiconaa.Ev
open Go
set_option linter.unusedVariables false
set_option linter.unusedSimpArgs false
set_option maxRecDepth 100000
abbrev kl : List CK := [.int .i64, .int .i64, .str]
def smD (a b : List (Elem ks)) (c : List (Elem kl)) : Bool := decide (a.length ≤ 1048576) && decide (b.length ≤ 1048576) && decide (c.length ≤ 1048576)
def longT (e : Elem ks) : Bool := decide ((e.1.size : Int) > 420)
def anyLong (xs : List (Elem ks)) : Bool := anyB xs.length fun i => longT (xs.getD i (edflt ks))
def secOk (n : Nat) (s i : Int) : Bool := decide (0 ≤ s) && decide (s ≤ 1) && decide (0 ≤ i) && decide (i < (n : Int))
def badL (n : Nat) (e : Elem kl) : Bool := !secOk n e.1 e.2.1 || decide ((e.2.2.1.size : Int) > 420)
def anyBad (n : Nat) (xs : List (Elem kl)) : Bool := anyB xs.length fun i => badL n (xs.getD i (edflt kl))
def dkOk (a b : List (Elem ks)) (c : List (Elem kl)) : Bool :=
  decide (1 ≤ a.length) && decide (a.length ≤ 120) && decide (b.length = a.length) && decide (c.length ≤ 600) && !anyLong a && !anyLong b && !anyBad a.length c
def g50 : G1
  | [.agg [.rsl [.str] a, .rsl [.str] b, .rsl [.int .i64, .int .i64, .str] c], .val (.int .i64 s), .val (.int .i64 i), .val (.string t)], [], k => k ⟨.val (.bool (secOk a.length s i && decide ((t.size : Int) ≤ 420))), [], []⟩
  | _, _, _ => False
def g47 : G1
  | [.agg [.rsl [.str] a, .rsl [.str] b, .rsl [.int .i64, .int .i64, .str] c]], [], k => br (smD a b c) (k ⟨.val (.bool (dkOk a b c)), [], []⟩) False
  | _, _, _ => False
noncomputable def E50 : Env := E0.of Try.f50
noncomputable def G50 : Gk := gk []
noncomputable def lp50 (n : Nat) : Code := (loopOf n (codeOf Try.f50)).getD .skip
noncomputable def ct50 (L : Lp) (R : Option Res → Prop) (n : Nat) : Kt := contOf E50 G50 L n (codeOf Try.f50) (endK E50 Try.f50.results.toList R)
noncomputable def rk50 (L : Lp) (R : Option Res → Prop) (n : Nat) (N : St → Prop) : Kt := rk (jof E50 (lp50 n)) N (ct50 L R n)
noncomputable def rkn50 (L : Lp) (R : Option Res → Prop) (n : Nat) (N : St → Prop) (m : Nat) (N2 : St → Prop) : Kt := rk (jof E50 (lp50 m)) N2 (contOf E50 G50 L m (lp50 n) (rk50 L R n N))
noncomputable def LOOPN50 (L : Lp) (R : Option Res → Prop) (n : Nat) (N : St → Prop) (m : Nat) (st : St) : Prop := L (lp50 m) st (contOf E50 G50 L m (lp50 n) (rk50 L R n N))
noncomputable def LOOP50 (L : Lp) (R : Option Res → Prop) (n : Nat) (st : St) : Prop := L (lp50 n) st (ct50 L R n)
theorem hg50 : HG Try.prog G50 := hg_nil
theorem okf50 : Ok Try.prog E50 := ok0.of Try.f50
theorem e50 (L : Lp) (R : Option Res → Prop) (a b : List (Elem ks)) (c : List (Elem kl)) (s i : Int) (t : ByteArray) : (bodyP E0 G50 L Try.f50 [.agg [.rsl ks a, .rsl ks b, .rsl kl c], .val (.int .i64 s), .val (.int .i64 i), .val (.string t)] [] R) = (
    br (decide (s ≥ 0)) (br (decide (s ≤ 1)) (br (decide (i ≥ 0)) (br (decide (i < (↑a.length : Int))) (R (some { av := vB (decide ((↑t.size : Int) ≤ 420)), obs := [], outs := [] })) (R (some { av := vB false, obs := [], outs := [] }))) (R (some { av := vB false, obs := [], outs := [] }))) (R (some { av := vB false, obs := [], outs := [] }))) (R (some { av := vB false, obs := [], outs := [] }))) := by kernel_rfl
theorem h50 : G1Ok Try.prog 50 g50 := by
  intro args obs k h
  unfold g50 at h
  split at h
  · rename_i k a b c s i t
    refine ⟨_, ctr_fn ok0 hg50 Try.func50 (by kernel_rfl) (by kernel_rfl) (by kernel_rfl) fun C => ?_, h⟩
    rw [e50]
    repeat' (first | refine br_dec (fun h => ?_) (fun h => ?_))
    all_goals show _ = _
    all_goals simp [secOk]
    all_goals omega
  · exact h.elim
noncomputable def E47 : Env := E0.of Try.f47
noncomputable def G47 : Gk := gk [(50, g50)]
noncomputable def lp47 (n : Nat) : Code := (loopOf n (codeOf Try.f47)).getD .skip
noncomputable def ct47 (L : Lp) (R : Option Res → Prop) (n : Nat) : Kt := contOf E47 G47 L n (codeOf Try.f47) (endK E47 Try.f47.results.toList R)
noncomputable def rk47 (L : Lp) (R : Option Res → Prop) (n : Nat) (N : St → Prop) : Kt := rk (jof E47 (lp47 n)) N (ct47 L R n)
noncomputable def rkn47 (L : Lp) (R : Option Res → Prop) (n : Nat) (N : St → Prop) (m : Nat) (N2 : St → Prop) : Kt := rk (jof E47 (lp47 m)) N2 (contOf E47 G47 L m (lp47 n) (rk47 L R n N))
noncomputable def LOOPN47 (L : Lp) (R : Option Res → Prop) (n : Nat) (N : St → Prop) (m : Nat) (st : St) : Prop := L (lp47 m) st (contOf E47 G47 L m (lp47 n) (rk47 L R n N))
noncomputable def LOOP47 (L : Lp) (R : Option Res → Prop) (n : Nat) (st : St) : Prop := L (lp47 n) st (ct47 L R n)
theorem hg47 : HG Try.prog G47 := (hg_cons h50 hg_nil)
theorem okf47 : Ok Try.prog E47 := ok0.of Try.f47
theorem e47 (L : Lp) (R : Option Res → Prop) (a b : List (Elem ks)) (c : List (Elem kl)) : (bodyP E0 G47 L Try.f47 [.agg [.rsl ks a, .rsl ks b, .rsl kl c]] [] R) = (
    br (decide ((↑a.length : Int) < 1)) (R (some { av := vB false, obs := [], outs := [] })) (br (decide ((↑a.length : Int) > 120)) (R (some { av := vB false, obs := [], outs := [] })) (br ((↑b.length : Int) != (↑a.length : Int)) (R (some { av := vB false, obs := [], outs := [] })) (br (decide ((↑c.length : Int) > 600)) (R (some { av := vB false, obs := [], outs := [] })) (LOOP47 L R 5 { tm := [AV.agg [AV.rsl ks a, AV.rsl ks b, AV.rsl kl c], AV.ptr 0 0, vB false, vI (↑a.length : Int), vI 0, vU, vJ, vJ, vJ, vJ, vJ, vJ, vJ, vJ, vJ, vJ, vJ, vJ, vJ, vJ, vJ, vJ, vJ, vJ, vJ, vJ, vJ, vJ, vJ, vJ, vJ, vJ, vJ, vJ, vJ, vJ, vJ, vJ, vJ, vJ, vJ, vJ, vJ, vJ, vJ, vJ, vJ, vJ, vJ, vJ, vJ, vJ, vJ, vU, vU, vU, vU, vU, vU, vU, vU, vU, vU, vU, vU, vU, vU, vU, vU, vU, vU, vU, vU, vU, vU, vU, vU, vU, vU, vU, vU], ob := [(0, AO.box [AV.rsl ks a, AV.rsl ks b, AV.rsl kl c])], nx := 1000000, ps := [] }))))) := by kernel_rfl
def st47 (a b : List (Elem ks)) (c : List (Elem kl)) (i : Int) : St :=  ⟨[AV.agg [AV.rsl ks a, AV.rsl ks b, AV.rsl kl c], AV.ptr 0 0, vB false, vI (↑a.length : Int), .val (.int .i64 i), vU, vJ, vJ, vJ, vJ, vJ, vJ, vJ, vJ, vJ, vJ, vJ, vJ, vJ, vJ, vJ, vJ, vJ, vJ, vJ, vJ, vJ, vJ, vJ, vJ, vJ, vJ, vJ, vJ, vJ, vJ, vJ, vJ, vJ, vJ, vJ, vJ, vJ, vJ, vJ, vJ, vJ, vJ, vJ, vJ, vJ, vJ, vJ, vU, vU, vU, vU, vU, vU, vU, vU, vU, vU, vU, vU, vU, vU, vU, vU, vU, vU, vU, vU, vU, vU, vU, vU, vU, vU, vU, vU], [(0, AO.box [AV.rsl ks a, AV.rsl ks b, AV.rsl kl c])], 1000000, []⟩
theorem b47 (L : Lp) (R : Option Res → Prop) (N : St → Prop) (a b : List (Elem ks)) (c : List (Elem kl)) (i : Int) : (evP E47 G47 L (lp47 5) (st47 a b c i) (rk47 L R 5 N)) = (
    br (decide (i < (↑a.length : Int))) (br (decide (0 ≤ i ∧ i < (↑a.length : Int))) (br (decide ((↑(ByteArray.size (a.getD i.toNat (edflt ks)).fst) : Int) > 420)) (R (some { av := vB false, obs := [], outs := [] })) (br (decide (0 ≤ i ∧ i < (↑b.length : Int))) (br (decide ((↑(ByteArray.size (b.getD i.toNat (edflt ks)).fst) : Int) > 420)) (R (some { av := vB false, obs := [], outs := [] })) (N { tm := [AV.agg [AV.rsl ks a, AV.rsl ks b, AV.rsl kl c], AV.ptr 0 0, vB false, vI (↑a.length : Int), vI (IntKind.i64.wrap (i + 1)), vU, vJ, vJ, vJ, vJ, vJ, vJ, vJ, vJ, vJ, vJ, vJ, vJ, vJ, vJ, vJ, vJ, vJ, vJ, vJ, vJ, vJ, vJ, vJ, vJ, vJ, vJ, vJ, vJ, vJ, vJ, vJ, vJ, vJ, vJ, vJ, vJ, vJ, vJ, vJ, vJ, vJ, vJ, vJ, vJ, vJ, vJ, vJ, vU, vU, vU, vU, vU, vU, vU, vU, vU, vU, vU, vU, vU, vU, vU, vU, vU, vU, vU, vU, vU, vU, vU, vU, vU, vU, vU, vU], ob := [(0, AO.box [AV.rsl ks a, AV.rsl ks b, AV.rsl kl c])], nx := 1000000, ps := [] })) False)) False) (LOOP47 L R 10 { tm := [AV.agg [AV.rsl ks a, AV.rsl ks b, AV.rsl kl c], AV.ptr 0 0, vB false, vJ, vJ, vI 0, vJ, vJ, vJ, vJ, vJ, vJ, vJ, vJ, vJ, vJ, vJ, vJ, vJ, vJ, vJ, vJ, vJ, vJ, vJ, vJ, vJ, vJ, vJ, vJ, vJ, vJ, vJ, vJ, vJ, vJ, vJ, vJ, vJ, vJ, vJ, vJ, vJ, vJ, vJ, vJ, vJ, vJ, vJ, vJ, vJ, vJ, vJ, vJ, vJ, vJ, vJ, vJ, vJ, vJ, vJ, vJ, vJ, vJ, vJ, vJ, vJ, vJ, vJ, vJ, vJ, vJ, vJ, vJ, vJ, vJ, vJ, vJ, vJ, vJ, vJ], ob := [(0, AO.box [AV.rsl ks a, AV.rsl ks b, AV.rsl kl c])], nx := 1000000, ps := [] })) := by kernel_rfl
def st47b (a b : List (Elem ks)) (c : List (Elem kl)) (i j : Int) : St :=  ⟨[AV.agg [AV.rsl ks a, AV.rsl ks b, AV.rsl kl c], AV.ptr 0 0, vB false, vJ, vJ, .val (.int .i64 j), vJ, vJ, vJ, vJ, vJ, vJ, vJ, vJ, vJ, vJ, vJ, vJ, vJ, vJ, vJ, vJ, vJ, vJ, vJ, vJ, vJ, vJ, vJ, vJ, vJ, vJ, vJ, vJ, vJ, vJ, vJ, vJ, vJ, vJ, vJ, vJ, vJ, vJ, vJ, vJ, vJ, vJ, vJ, vJ, vJ, vJ, vJ, vJ, vJ, vJ, vJ, vJ, vJ, vJ, vJ, vJ, vJ, vJ, vJ, vJ, vJ, vJ, vJ, vJ, vJ, vJ, vJ, vJ, vJ, vJ, vJ, vJ, vJ, vJ, vJ], [(0, AO.box [AV.rsl ks a, AV.rsl ks b, AV.rsl kl c])], 1000000, []⟩
theorem b47b (L : Lp) (R : Option Res → Prop) (N : St → Prop) (a b : List (Elem ks)) (c : List (Elem kl)) (i j : Int) : (evP E47 G47 L (lp47 10) (st47b a b c i j) (rk47 L R 10 N)) = (
    br (decide (j < (↑c.length : Int))) (br (decide (0 ≤ j ∧ j < (↑c.length : Int))) (br (decide (0 ≤ j ∧ j < (↑c.length : Int))) (br (decide (0 ≤ j ∧ j < (↑c.length : Int))) (br (!(secOk a.length (c.getD j.toNat (edflt kl)).fst (c.getD j.toNat (edflt kl)).snd.fst && decide ((↑(ByteArray.size (c.getD j.toNat (edflt kl)).snd.snd.fst) : Int) ≤ 420))) (R (some { av := vB false, obs := [], outs := [] })) (N { tm := [AV.agg [AV.rsl ks a, AV.rsl ks b, AV.rsl kl c], AV.ptr 0 0, vB false, vJ, vJ, vI (IntKind.i64.wrap (j + 1)), vJ, vJ, vJ, vJ, vJ, vJ, vJ, vJ, vJ, vJ, vJ, vJ, vJ, vJ, vJ, vJ, vJ, vJ, vJ, vJ, vJ, vJ, vJ, vJ, vJ, vJ, vJ, vJ, vJ, vJ, vJ, vJ, vJ, vJ, vJ, vJ, vJ, vJ, vJ, vJ, vJ, vJ, vJ, vJ, vJ, vJ, vJ, vJ, vJ, vJ, vJ, vJ, vJ, vJ, vJ, vJ, vJ, vJ, vJ, vJ, vJ, vJ, vJ, vJ, vJ, vJ, vJ, vJ, vJ, vJ, vJ, vJ, vJ, vJ, vJ], ob := [(0, AO.box [AV.rsl ks a, AV.rsl ks b, AV.rsl kl c])], nx := 1000000, ps := [] })) False) False) False) (R (some { av := vB true, obs := [], outs := [] }))) := by kernel_rfl
theorem dkOk_f1 {a b : List (Elem ks)} {c : List (Elem kl)} (h : anyLong a = true) : dkOk a b c = false := by simp [dkOk, h]
theorem dkOk_f2 {a b : List (Elem ks)} {c : List (Elem kl)} (h : anyLong b = true) : dkOk a b c = false := by simp [dkOk, h]
theorem dkOk_f3 {a b : List (Elem ks)} {c : List (Elem kl)} (h : anyBad a.length c = true) : dkOk a b c = false := by simp [dkOk, h]
theorem h47 : G1Ok Try.prog 47 g47 := by
  intro args obs k h
  unfold g47 at h
  split at h
  · rename_i k a b c
    unfold smD at h
    obtain ⟨hp, hc, h⟩ := brb2 h
    rw [decide_eq_true_eq] at hc
    refine ⟨_, ctr_fn ok0 hg47 Try.func47 (by kernel_rfl) (by kernel_rfl) (by kernel_rfl) fun C => ?_, h⟩
    rw [e47]
    refine br_dec (fun h1 => ?_) (fun h1 => br_dec (fun h2 => ?_) (fun h2 => br_intro (fun h3 => ?_) (fun h3 => br_dec (fun h4 => ?_) (fun h4 => ?_))))
    · show _ = _
      have : ¬ 1 ≤ a.length := by omega
      simp [dkOk, this]
    · show _ = _
      have : ¬ a.length ≤ 120 := by omega
      simp [dkOk, this]
    · show _ = _
      have : ¬ b.length = a.length := fun e => by rw [e] at h3; simp at h3
      simp [dkOk, this]
    · show _ = _
      have : ¬ c.length ≤ 600 := by omega
      simp [dkOk, this]
    have e1 : b.length = a.length := by simp at h3; omega
    have e2 : 1 ≤ a.length := by omega
    have e3 : a.length ≤ 120 := by omega
    have e4 : c.length ≤ 600 := by omega
    refine loopUp okf47 hg47 (α := Unit) (fun i _ => st47 a b c i) a.length (fun i _ => ∀ j, j < i → longT (a.getD j (edflt ks)) = false ∧ longT (b.getD j (edflt ks)) = false) (fun N i _ hi hall next => ?_) () (fun j hj => by omega)
    show evP E47 G47 _ (lp47 5) (st47 a b c i) (rk47 _ _ 5 _)
    rw [b47, wrap_id (n := (i : Int) + 1) (by omega) (by omega), Int.toNat_natCast]
    refine br_dec (fun h5 => br_yes ⟨by omega, h5⟩ (br_intro (fun h6 => ?_) (fun h6 => br_yes ⟨by omega, by omega⟩ (br_intro (fun h7 => ?_) (fun h7 => ?_))))) (fun h5 => ?_)
    · show _ = _
      rw [dkOk_f1 (anyB_t (i := i) (by omega) h6)]
    · show _ = _
      rw [dkOk_f2 (anyB_t (i := i) (by omega) h7)]
    · refine next (by omega) () (fun j hj => ?_)
      by_cases e : j < i
      · exact hall j e
      · have : j = i := by omega
        rw [this]
        exact ⟨h6, h7⟩
    · have l1 : anyLong a = false := anyB_f fun j hj => (hall j (by omega)).1
      have l2 : anyLong b = false := anyB_f fun j hj => (hall j (by omega)).2
      have res : ∀ x, anyBad a.length c = x → dkOk a b c = !x := by
        intro x hx
        simp [dkOk, l1, l2, hx, e1, e2, e3, e4]
      refine loopAll okf47 hg47 (fun j => st47b a b c i j) c.length (fun j => !badL a.length (c.getD j (edflt kl))) (by omega) (fun N j hj hw next fails done => ?_)
      show evP E47 G47 _ (lp47 10) (st47b a b c i j) (rk47 _ _ 10 _)
      rw [b47b, hw, Int.toNat_natCast]
      have e : (!badL a.length (c.getD j (edflt kl))) = (secOk a.length (c.getD j (edflt kl)).1 (c.getD j (edflt kl)).2.1 && decide (((c.getD j (edflt kl)).2.2.1.size : Int) ≤ 420)) := by
        unfold badL
        rw [Bool.not_or, Bool.not_not]
        congr 1
        rw [Bool.eq_iff_iff]
        simp
      rw [← e]
      refine br_dec (fun h30 => br_yes ⟨by omega, h30⟩ (br_yes ⟨by omega, h30⟩ (br_yes ⟨by omega, h30⟩ (br_not (fun h9 => ?_) (fun h9 => ?_))))) (fun h30 => ?_)
      · show _ = _
        rw [res _ (anyB_t (i := j) (by omega) (by simpa using h9))]
        rfl
      · exact next (by omega) h9
      · show _ = _
        have := done (by omega)
        rw [res false (anyB_f fun q hq => by simpa using allB_at this hq)]
        rfl
  · exact h.elim
def hitL (e : Elem kl) (s i : Int) : Bool := e.1 == s && e.2.1 == i
def lkL (c : List (Elem kl)) (s i : Int) : Nat → Option ByteArray
  | 0 => none
  | n + 1 => match hitL (c.getD n (edflt kl)) s i with
    | true => some (c.getD n (edflt kl)).2.2.1
    | false => lkL c s i n
def sideAt (a b : List (Elem ks)) (s i : Int) : ByteArray := match s == 0 with
  | true => (a.getD i.toNat (edflt ks)).1
  | false => (b.getD i.toNat (edflt ks)).1
def rdD (a b : List (Elem ks)) (c : List (Elem kl)) (s i : Int) : ByteArray := match lkL c s i c.length with
  | some t => t
  | none => sideAt a b s i
def rdA (a b : List (Elem ks)) (c : List (Elem kl)) (s i : Int) : ByteArray := match dkOk a b c && secOk a.length s i with
  | true => rdD a b c s i
  | false => ByteArray.empty
def g51 : G1
  | [.agg [.rsl [.str] a, .rsl [.str] b, .rsl [.int .i64, .int .i64, .str] c], .val (.int .i64 s), .val (.int .i64 i)], [], k =>
    br (secOk a.length s i && (decide (b.length = a.length) && decide (c.length ≤ 1048576))) (k ⟨.val (.string (rdD a b c s i)), [], []⟩) False
  | _, _, _ => False
noncomputable def E51 : Env := E0.of Try.f51
noncomputable def G51 : Gk := gk []
noncomputable def lp51 (n : Nat) : Code := (loopOf n (codeOf Try.f51)).getD .skip
noncomputable def ct51 (L : Lp) (R : Option Res → Prop) (n : Nat) : Kt := contOf E51 G51 L n (codeOf Try.f51) (endK E51 Try.f51.results.toList R)
noncomputable def rk51 (L : Lp) (R : Option Res → Prop) (n : Nat) (N : St → Prop) : Kt := rk (jof E51 (lp51 n)) N (ct51 L R n)
noncomputable def rkn51 (L : Lp) (R : Option Res → Prop) (n : Nat) (N : St → Prop) (m : Nat) (N2 : St → Prop) : Kt := rk (jof E51 (lp51 m)) N2 (contOf E51 G51 L m (lp51 n) (rk51 L R n N))
noncomputable def LOOPN51 (L : Lp) (R : Option Res → Prop) (n : Nat) (N : St → Prop) (m : Nat) (st : St) : Prop := L (lp51 m) st (contOf E51 G51 L m (lp51 n) (rk51 L R n N))
noncomputable def LOOP51 (L : Lp) (R : Option Res → Prop) (n : Nat) (st : St) : Prop := L (lp51 n) st (ct51 L R n)
theorem hg51 : HG Try.prog G51 := hg_nil
theorem okf51 : Ok Try.prog E51 := ok0.of Try.f51
theorem e51 (L : Lp) (R : Option Res → Prop) (a b : List (Elem ks)) (c : List (Elem kl)) (s i : Int) : (bodyP E0 G51 L Try.f51 [.agg [.rsl ks a, .rsl ks b, .rsl kl c], .val (.int .i64 s), .val (.int .i64 i)] [] R) = (
    LOOP51 L R 2 { tm := [AV.agg [AV.rsl ks a, AV.rsl ks b, AV.rsl kl c], vI s, vI i, AV.ptr 0 0, vU, vU, vS { data := #[] }, vI (IntKind.i64.wrap ((↑c.length : Int) - 1)), vJ, vJ, vJ, vJ, vJ, vJ, vJ, vJ, vJ, vJ, vJ, vJ, vJ, vJ, vJ, vJ, vJ, vJ, vJ, vJ, vJ, vJ, vJ, vJ, vJ, vJ, vJ, vJ, vJ, vJ, vJ, vJ, vU, vU, vU, vU, vU, vU, vU], ob := [(0, AO.box [AV.rsl ks a, AV.rsl ks b, AV.rsl kl c])], nx := 1000000, ps := [] }) := by kernel_rfl
def st51 (a b : List (Elem ks)) (c : List (Elem kl)) (s i j : Int) : St :=  ⟨[AV.agg [AV.rsl ks a, AV.rsl ks b, AV.rsl kl c], vI s, vI i, AV.ptr 0 0, vU, vU, vS { data := #[] }, .val (.int .i64 j), vJ, vJ, vJ, vJ, vJ, vJ, vJ, vJ, vJ, vJ, vJ, vJ, vJ, vJ, vJ, vJ, vJ, vJ, vJ, vJ, vJ, vJ, vJ, vJ, vJ, vJ, vJ, vJ, vJ, vJ, vJ, vJ, vU, vU, vU, vU, vU, vU, vU], [(0, AO.box [AV.rsl ks a, AV.rsl ks b, AV.rsl kl c])], 1000000, []⟩
theorem b51 (L : Lp) (R : Option Res → Prop) (N : St → Prop) (a b : List (Elem ks)) (c : List (Elem kl)) (s i j : Int) : (evP E51 G51 L (lp51 2) (st51 a b c s i j) (rk51 L R 2 N)) = (
    br (decide (j ≥ 0)) (br (decide (0 ≤ j ∧ j < (↑c.length : Int))) (br ((c.getD j.toNat (edflt kl)).fst == s) (br (decide (0 ≤ j ∧ j < (↑c.length : Int))) (br ((c.getD j.toNat (edflt kl)).snd.fst == i) (br (decide (0 ≤ j ∧ j < (↑c.length : Int))) (R (some { av := vS (c.getD j.toNat (edflt kl)).snd.snd.fst, obs := [], outs := [] })) False) (N { tm := [AV.agg [AV.rsl ks a, AV.rsl ks b, AV.rsl kl c], vI s, vI i, AV.ptr 0 0, vU, vU, vS { data := #[] }, vI (IntKind.i64.wrap (j - 1)), vJ, vJ, vJ, vJ, vJ, vJ, vJ, vJ, vJ, vJ, vJ, vJ, vJ, vJ, vJ, vJ, vJ, vJ, vJ, vJ, vJ, vJ, vJ, vJ, vJ, vJ, vJ, vJ, vJ, vJ, vJ, vJ, vU, vU, vU, vU, vU, vU, vU], ob := [(0, AO.box [AV.rsl ks a, AV.rsl ks b, AV.rsl kl c])], nx := 1000000, ps := [] })) False) (N { tm := [AV.agg [AV.rsl ks a, AV.rsl ks b, AV.rsl kl c], vI s, vI i, AV.ptr 0 0, vU, vU, vS { data := #[] }, vI (IntKind.i64.wrap (j - 1)), vJ, vJ, vJ, vJ, vJ, vJ, vJ, vJ, vJ, vJ, vJ, vJ, vJ, vJ, vJ, vJ, vJ, vJ, vJ, vJ, vJ, vJ, vJ, vJ, vJ, vJ, vJ, vJ, vJ, vJ, vJ, vJ, vU, vU, vU, vU, vU, vU, vU], ob := [(0, AO.box [AV.rsl ks a, AV.rsl ks b, AV.rsl kl c])], nx := 1000000, ps := [] })) False) (br (s == 0) (br (decide (0 ≤ i ∧ i < (↑a.length : Int))) (R (some { av := vS (a.getD i.toNat (edflt ks)).fst, obs := [], outs := [] })) False) (br (s == 1) (br (decide (0 ≤ i ∧ i < (↑b.length : Int))) (R (some { av := vS (b.getD i.toNat (edflt ks)).fst, obs := [], outs := [] })) False) False))) := by kernel_rfl
theorem h51 : G1Ok Try.prog 51 g51 := by
  intro args obs k h
  unfold g51 at h
  split at h
  · rename_i k a b c s i
    obtain ⟨hs, hq, h⟩ := brb2 h
    rw [Bool.and_eq_true, decide_eq_true_eq, decide_eq_true_eq] at hq
    have hs' := hs
    simp only [secOk, Bool.and_eq_true, decide_eq_true_eq] at hs'
    refine ⟨_, ctr_fn ok0 hg51 Try.func51 (by kernel_rfl) (by kernel_rfl) (by kernel_rfl) fun C => ?_, h⟩
    rw [e51]
    refine loopDown okf51 hg51 (fun j => st51 a b c s i j) c.length (fun q => lkL c s i c.length = lkL c s i q) (fun N h0 => ?_) (fun N q hq' hI next => ?_) _ (wrap_id (by omega) (by omega)) rfl
    · show evP E51 G51 _ (lp51 2) (st51 a b c s i (-1)) (rk51 _ _ 2 _)
      rw [b51]
      have e : rdD a b c s i = sideAt a b s i := by
        unfold rdD
        rw [h0]
        rfl
      refine br_no (by omega) (br_intro (fun h1 => br_yes ⟨by omega, by omega⟩ ?_) (fun h1 => br_intro (fun h2 => br_yes ⟨by omega, by omega⟩ ?_) (fun h2 => ?_)))
      · show _ = _
        rw [e]
        unfold sideAt
        rw [h1]
      · show _ = _
        rw [e]
        unfold sideAt
        rw [h1]
      · simp at h1 h2
        omega
    · show evP E51 G51 _ (lp51 2) (st51 a b c s i q) (rk51 _ _ 2 _)
      rw [b51, Int.toNat_natCast, wrap_id (n := (q : Int) - 1) (by omega) (by omega)]
      have miss : hitL (c.getD q (edflt kl)) s i = false → N (st51 a b c s i ((q : Int) - 1)) := fun h1 => next (by
        rw [hI]
        show (match hitL (c.getD q (edflt kl)) s i with | true => some (c.getD q (edflt kl)).2.2.1 | false => lkL c s i q) = _
        rw [h1])
      refine br_yes (by omega) (br_yes ⟨by omega, by omega⟩ (br_intro (fun h1 => br_yes ⟨by omega, by omega⟩ (br_intro (fun h2 => br_yes ⟨by omega, by omega⟩ ?_) (fun h2 => miss ?_))) (fun h1 => miss ?_)))
      · show _ = _
        have : lkL c s i (q + 1) = some (c.getD q (edflt kl)).2.2.1 := by
          show (match hitL (c.getD q (edflt kl)) s i with | true => some (c.getD q (edflt kl)).2.2.1 | false => lkL c s i q) = _
          unfold hitL
          rw [h1, h2]
          rfl
        unfold rdD
        rw [hI, this]
      · unfold hitL
        rw [h2, Bool.and_false]
      · unfold hitL
        rw [h1]
        rfl
  · exact h.elim
noncomputable def E41 : Env := E0.of Try.f41
noncomputable def G41 : Gk := gk [(47, g47), (50, g50), (51, g51)]
noncomputable def lp41 (n : Nat) : Code := (loopOf n (codeOf Try.f41)).getD .skip
noncomputable def ct41 (L : Lp) (R : Option Res → Prop) (n : Nat) : Kt := contOf E41 G41 L n (codeOf Try.f41) (endK E41 Try.f41.results.toList R)
noncomputable def rk41 (L : Lp) (R : Option Res → Prop) (n : Nat) (N : St → Prop) : Kt := rk (jof E41 (lp41 n)) N (ct41 L R n)
noncomputable def rkn41 (L : Lp) (R : Option Res → Prop) (n : Nat) (N : St → Prop) (m : Nat) (N2 : St → Prop) : Kt := rk (jof E41 (lp41 m)) N2 (contOf E41 G41 L m (lp41 n) (rk41 L R n N))
noncomputable def LOOPN41 (L : Lp) (R : Option Res → Prop) (n : Nat) (N : St → Prop) (m : Nat) (st : St) : Prop := L (lp41 m) st (contOf E41 G41 L m (lp41 n) (rk41 L R n N))
noncomputable def LOOP41 (L : Lp) (R : Option Res → Prop) (n : Nat) (st : St) : Prop := L (lp41 n) st (ct41 L R n)
theorem hg41 : HG Try.prog G41 := (hg_cons h47 (hg_cons h50 (hg_cons h51 hg_nil)))
theorem okf41 : Ok Try.prog E41 := ok0.of Try.f41
theorem e41 (L : Lp) (R : Option Res → Prop) (a b : List (Elem ks)) (c : List (Elem kl)) (s i : Int) : (bodyP E0 G41 L Try.f41 [.agg [.rsl ks a, .rsl ks b, .rsl kl c], .val (.int .i64 s), .val (.int .i64 i)] [] R) = (
    br (smD a b c) (br (!dkOk a b c) (R (some { av := AV.tup [vS { data := #[] }, vB false], obs := [], outs := [] })) (br (!(secOk a.length s i && true)) (R (some { av := AV.tup [vS { data := #[] }, vB false], obs := [], outs := [] })) (br (secOk a.length s i && (decide (b.length = a.length) && decide (c.length ≤ 1048576))) (R (some { av := AV.tup [vS (rdD a b c s i), vB true], obs := [], outs := [] })) False))) False) := by kernel_rfl
theorem dkOk_b {a b : List (Elem ks)} {c : List (Elem kl)} (h : dkOk a b c = true) : b.length = a.length ∧ c.length ≤ 600 ∧ a.length ≤ 120 := by
  simp only [dkOk, Bool.and_eq_true, decide_eq_true_eq] at h
  exact ⟨h.1.1.1.1.2, h.1.1.1.2, h.1.1.1.1.1.2⟩
def g41 : G1
  | [.agg [.rsl [.str] a, .rsl [.str] b, .rsl [.int .i64, .int .i64, .str] c], .val (.int .i64 s), .val (.int .i64 i)], [], k =>
    br (smD a b c) (k ⟨.tup [.val (.string (rdA a b c s i)), .val (.bool (dkOk a b c && secOk a.length s i))], [], []⟩) False
  | _, _, _ => False
theorem h41 : G1Ok Try.prog 41 g41 := by
  intro args obs k h
  unfold g41 at h
  split at h
  · rename_i k a b c s i
    obtain ⟨hp, h⟩ := br_and h
    refine ⟨_, ctr_fn ok0 hg41 Try.func41 (by kernel_rfl) (by kernel_rfl) (by kernel_rfl) fun C => ?_, h⟩
    rw [e41]
    unfold rdA
    refine br_t hp (br_not (fun h1 => ?_) (fun h1 => br_not (fun h2 => ?_) (fun h2 => br_t ?_ ?_)))
    · show _ = _
      rw [h1]
      rfl
    · rw [Bool.and_true] at h2
      show _ = _
      rw [h2, Bool.and_false]
      rfl
    · rw [Bool.and_true] at h2
      obtain ⟨q1, q2, q3⟩ := dkOk_b h1
      rw [h2, q1]
      simp
      omega
    · rw [Bool.and_true] at h2
      show _ = _
      rw [h1, h2]
      rfl
  · exact h.elim
theorem lkL_size {n0 : Nat} {c : List (Elem kl)} (h : anyBad n0 c = false) (s i : Int) : ∀ (n : Nat), n ≤ c.length → ∀ t, lkL c s i n = some t → t.size ≤ 420
  | 0, _, t, h => by cases h
  | n + 1, hn, t, ht => by
    unfold lkL at ht
    split at ht
    · obtain rfl := Option.some.inj ht
      unfold anyBad at h
      have hb := anyB_at h (i := n) (by omega)
      unfold badL at hb
      rw [Bool.or_eq_false_iff, decide_eq_false_iff_not] at hb
      omega
    · exact lkL_size h s i n (by omega) t ht
theorem side_size {a : List (Elem ks)} (h : anyLong a = false) (i : Nat) : (a.getD i (edflt ks)).1.size ≤ 420 := by
  by_cases hi : i < a.length
  · unfold anyLong at h
    have hb := anyB_at h hi
    unfold longT at hb
    rw [decide_eq_false_iff_not] at hb
    omega
  · rw [List.getD_eq_getElem?_getD, List.getElem?_eq_none (by omega)]
    exact Nat.zero_le _
theorem rdA_size (a b : List (Elem ks)) (c : List (Elem kl)) (s i : Int) : (rdA a b c s i).size ≤ 420 := by
  unfold rdA
  split
  · rename_i h
    rw [Bool.and_eq_true] at h
    have hd := h.1
    simp only [dkOk, Bool.and_eq_true, Bool.not_eq_true'] at hd
    unfold rdD
    split
    · rename_i t ht
      exact lkL_size hd.2 s i _ (Nat.le_refl _) t ht
    · unfold sideAt
      split
      · exact side_size hd.1.1.2 _
      · exact side_size hd.1.2 _
  · exact Nat.zero_le _
end Go.Proofs.Ytkjnijddbiconaa.Ev
