/- How many sectors are stored, safe, free: contracts. -/
import Derived.Test.YtkjnijddbiconaaGreatDoorRM
namespace Go.Proofs.YtkjnijddbiconaaGreatDoor.Ev
open Go
set_option linter.unusedVariables false
set_option linter.unusedSimpArgs false
set_option maxRecDepth 100000
set_option maxHeartbeats 1000000
def ctS (d : List (Elem k3)) (m : Nat) : Nat := (List.range m).countP fun (q : Nat) => okD d (13 + (q : Int))
def ctO (d : List (Elem k3)) (f : List (Elem ki)) (m : Nat) : Nat := (List.range m).countP fun (q : Nat) => !okD d (13 + (q : Int)) && hasF f (13 + (q : Int))
def smS (c : Co) (n : Int) : Int := match romB c n with
  | true => ctS c.2.2.1 (n - 13).toNat
  | false => 0
def smO (c : Co) (n : Int) : Int := match romB c n with
  | true => ctO c.2.2.1 c.2.2.2.2.2.1 (n - 13).toNat
  | false => 0
def smF (c : Co) (n : Int) : Int := match romB c n with
  | true => (frL c.2.2.1 c.2.2.2.2.2.1 n).length
  | false => 0
def g22 : G1
  | [.agg us, .val (.int .i64 n)], [], k => match coreOf us with
    | some c => br (smB' c) (k ⟨.tup [.val (.int .i64 (smS c n)), .val (.int .i64 (smO c n)), .val (.int .i64 (smF c n))], [], []⟩) False
    | none => False
  | _, _, _ => False
theorem cnt_next (p : Nat → Bool) (m : Nat) : (List.range (m + 1)).countP p = (List.range m).countP p + if p m = true then 1 else 0 := by
  rw [List.range_succ, List.countP_append, List.countP_cons, List.countP_nil]
  simp
theorem ctS_y {d : List (Elem k3)} {m : Nat} (h : okD d (13 + (m : Int)) = true) : ctS d (m + 1) = ctS d m + 1 := by
  unfold ctS
  rw [cnt_next, if_pos h]
theorem ctS_n {d : List (Elem k3)} {m : Nat} (h : okD d (13 + (m : Int)) = false) : ctS d (m + 1) = ctS d m := by
  unfold ctS
  rw [cnt_next, if_neg (by rw [h]; exact Bool.false_ne_true)]
  rfl
theorem ctO_y {d : List (Elem k3)} {f : List (Elem ki)} {m : Nat} (h : okD d (13 + (m : Int)) = false) (h2 : hasF f (13 + (m : Int)) = true) : ctO d f (m + 1) = ctO d f m + 1 := by
  unfold ctO
  rw [cnt_next, if_pos (by rw [h, h2]; rfl)]
theorem ctO_n {d : List (Elem k3)} {f : List (Elem ki)} {m : Nat} (h : okD d (13 + (m : Int)) = true ∨ hasF f (13 + (m : Int)) = false) : ctO d f (m + 1) = ctO d f m := by
  unfold ctO
  rw [cnt_next, if_neg (by rcases h with h | h <;> rw [h] <;> simp)]
  rfl
theorem frP_y {d : List (Elem k3)} {f : List (Elem ki)} {m : Nat} (h : frB d f (13 + (m : Int)) = true) : (frP d f (m + 1)).length = (frP d f m).length + 1 := by
  rw [frP_next, h, List.length_append]
  rfl
theorem frP_n {d : List (Elem k3)} {f : List (Elem ki)} {m : Nat} (h : frB d f (13 + (m : Int)) = false) : (frP d f (m + 1)).length = (frP d f m).length := by
  rw [frP_next, h, List.length_append]
  rfl
theorem ctS_le (d : List (Elem k3)) (m : Nat) : ctS d m ≤ m := by
  have := List.countP_le_length (p := fun (q : Nat) => okD d (13 + (q : Int))) (l := List.range m)
  rw [List.length_range] at this
  exact this
theorem ctO_le (d : List (Elem k3)) (f : List (Elem ki)) (m : Nat) : ctO d f m ≤ m := by
  have := List.countP_le_length (p := fun (q : Nat) => !okD d (13 + (q : Int)) && hasF f (13 + (q : Int))) (l := List.range m)
  rw [List.length_range] at this
  exact this
theorem sm_f {c : Co} {m : Int} (h : romB c m = false) : (some ⟨.tup [vI 0, vI 0, vI 0], [], []⟩ : Option Res) = some ⟨.tup [.val (.int .i64 (smS c m)), .val (.int .i64 (smO c m)), .val (.int .i64 (smF c m))], [], []⟩ := by
  unfold smS smO smF
  rw [h]
theorem sm_t {x : Int} {s : List (Elem kc)} {d p : List (Elem k3)} {b : Bool} {f : List (Elem ki)} {n m : Int} (h : romB (x, s, d, p, b, f, n) m = true) : smS (x, s, d, p, b, f, n) m = ctS d (m - 13).toNat ∧ smO (x, s, d, p, b, f, n) m = ctO d f (m - 13).toNat ∧ smF (x, s, d, p, b, f, n) m = (frL d f m).length := by
  unfold smS smO smF
  rw [h]
  exact ⟨rfl, rfl, rfl⟩
noncomputable def E22 : Env := Ef.of Tryz.f22
noncomputable def G22 : Gk := gk [(39, g39), (72, g72), (73, g73), (74, g74)]
noncomputable def lp22 (n : Nat) : Code := (loopOf n (codeOf Tryz.f22)).getD .skip
noncomputable def ct22 (L : Lp) (R : Option Res → Prop) (n : Nat) : Kt := contOf E22 G22 L n (codeOf Tryz.f22) (endK E22 Tryz.f22.results.toList R)
noncomputable def rk22 (L : Lp) (R : Option Res → Prop) (n : Nat) (N : St → Prop) : Kt := rk (jof E22 (lp22 n)) N (ct22 L R n)
noncomputable def rkn22 (L : Lp) (R : Option Res → Prop) (n : Nat) (N : St → Prop) (m : Nat) (N2 : St → Prop) : Kt := rk (jof E22 (lp22 m)) N2 (contOf E22 G22 L m (lp22 n) (rk22 L R n N))
noncomputable def LOOPN22 (L : Lp) (R : Option Res → Prop) (n : Nat) (N : St → Prop) (m : Nat) (st : St) : Prop := L (lp22 m) st (contOf E22 G22 L m (lp22 n) (rk22 L R n N))
noncomputable def LOOP22 (L : Lp) (R : Option Res → Prop) (n : Nat) (st : St) : Prop := L (lp22 n) st (ct22 L R n)
theorem hg22 : HG Tryz.prog G22 := (hg_cons h39 (hg_cons h72 (hg_cons h73 (hg_cons h74 hg_nil))))
theorem okf22 : Ok Tryz.prog E22 := okf.of Tryz.f22
theorem e22 (L : Lp) (R : Option Res → Prop) (x : Int) (s : List (Elem kc)) (d p : List (Elem k3)) (b : Bool) (f : List (Elem ki)) (n m : Int) : (bodyP Ef G22 L Tryz.f22 [coreAV x s d p b f n, .val (.int .i64 m)] [] R) = (
    br (smB' (x, s, d, p, b, f, n)) (br (!coreOk (x, s, d, p, b, f, n).fst (x, s, d, p, b, f, n).snd.fst (x, s, d, p, b, f, n).snd.snd.fst (x, s, d, p, b, f, n).snd.snd.snd.fst (x, s, d, p, b, f, n).snd.snd.snd.snd.snd.fst (x, s, d, p, b, f, n).snd.snd.snd.snd.snd.snd) (R (some { av := AV.tup [vI 0, vI 0, vI 0], obs := [], outs := [] })) (br (decide (m > 120)) (R (some { av := AV.tup [vI 0, vI 0, vI 0], obs := [], outs := [] })) (LOOP22 L R 6 { tm := [vJ, vI m, AV.ptr 0 0, vJ, vJ, vJ, vJ, vI 0, vI 0, vI 13, vJ, vJ, vJ, vJ, vJ, vJ, vJ, vJ, vJ, vJ, vJ, vJ, vJ, vJ, vJ, vJ, vJ, vJ, vJ, vJ, vJ, vJ, vJ, vJ, vJ, vJ, vJ, vJ, vJ, vJ, vJ, vJ, vJ, vJ, vJ, vJ], ob := [(0, AO.box [vI x, AV.rsl kc s, AV.rsl k3 d, AV.rsl k3 p, vB b, AV.rsl ki f, vI n])], nx := 1000000, ps := [] }))) False) := by kernel_rfl
def st22 (x : Int) (s : List (Elem kc)) (d p : List (Elem k3)) (b : Bool) (f : List (Elem ki)) (n m : Int) (u v i : Int) : St :=  ⟨[vJ, vI m, AV.ptr 0 0, vJ, vJ, vJ, vJ, .val (.int .i64 u), .val (.int .i64 v), .val (.int .i64 i), vJ, vJ, vJ, vJ, vJ, vJ, vJ, vJ, vJ, vJ, vJ, vJ, vJ, vJ, vJ, vJ, vJ, vJ, vJ, vJ, vJ, vJ, vJ, vJ, vJ, vJ, vJ, vJ, vJ, vJ, vJ, vJ, vJ, vJ, vJ, vJ], [(0, AO.box [vI x, AV.rsl kc s, AV.rsl k3 d, AV.rsl k3 p, vB b, AV.rsl ki f, vI n])], 1000000, []⟩
theorem b22 (L : Lp) (R : Option Res → Prop) (N : St → Prop) (x : Int) (s : List (Elem kc)) (d p : List (Elem k3)) (b : Bool) (f : List (Elem ki)) (n m : Int) (u v i : Int) : (evP E22 G22 L (lp22 6) (st22 x s d p b f n m u v i) (rk22 L R 6 N)) = (
    br (decide (i < m)) (br (decide (d.length ≤ 1048576)) (br (okD d i) (N { tm := [vJ, vI m, AV.ptr 0 0, vJ, vJ, vJ, vJ, vI (IntKind.i64.wrap (u + 1)), vI v, vI (IntKind.i64.wrap (i + 1)), vJ, vJ, vJ, vJ, vJ, vJ, vJ, vJ, vJ, vJ, vJ, vJ, vJ, vJ, vJ, vJ, vJ, vJ, vJ, vJ, vJ, vJ, vJ, vJ, vJ, vJ, vJ, vJ, vJ, vJ, vJ, vJ, vJ, vJ, vJ, vJ], ob := [(0, AO.box [vI x, AV.rsl kc s, AV.rsl k3 d, AV.rsl k3 p, vB b, AV.rsl ki f, vI n])], nx := 1000000, ps := [] }) (br (decide (f.length ≤ 1048576)) (br (hasF f i) (N { tm := [vJ, vI m, AV.ptr 0 0, vJ, vJ, vJ, vJ, vI u, vI (IntKind.i64.wrap (v + 1)), vI (IntKind.i64.wrap (i + 1)), vJ, vJ, vJ, vJ, vJ, vJ, vJ, vJ, vJ, vJ, vJ, vJ, vJ, vJ, vJ, vJ, vJ, vJ, vJ, vJ, vJ, vJ, vJ, vJ, vJ, vJ, vJ, vJ, vJ, vJ, vJ, vJ, vJ, vJ, vJ, vJ], ob := [(0, AO.box [vI x, AV.rsl kc s, AV.rsl k3 d, AV.rsl k3 p, vB b, AV.rsl ki f, vI n])], nx := 1000000, ps := [] }) (N { tm := [vJ, vI m, AV.ptr 0 0, vJ, vJ, vJ, vJ, vI u, vI v, vI (IntKind.i64.wrap (i + 1)), vJ, vJ, vJ, vJ, vJ, vJ, vJ, vJ, vJ, vJ, vJ, vJ, vJ, vJ, vJ, vJ, vJ, vJ, vJ, vJ, vJ, vJ, vJ, vJ, vJ, vJ, vJ, vJ, vJ, vJ, vJ, vJ, vJ, vJ, vJ, vJ], ob := [(0, AO.box [vI x, AV.rsl kc s, AV.rsl k3 d, AV.rsl k3 p, vB b, AV.rsl ki f, vI n])], nx := 1000000, ps := [] })) False)) False) (br (smCo (x, s, d, p, b, f, n) && decide (m ≤ 120)) (R (some { av := AV.tup [vI u, vI v, vI (↑(frL (x, s, d, p, b, f, n).snd.snd.fst (x, s, d, p, b, f, n).snd.snd.snd.snd.snd.fst m).length : Int)], obs := [], outs := [] })) False)) := by kernel_rfl
theorem h22 : G1Ok Tryz.prog 22 g22 := by
  intro args obs k h
  unfold g22 at h
  split at h
  · rename_i k us m
    split at h
    rotate_left
    · exact h.elim
    rename_i c hc
    obtain rfl := coreOf_inv hc
    obtain ⟨x, s, d, p, b, f, n⟩ := c
    obtain ⟨hp, h⟩ := br_and h
    have hp1 : smCo (x, s, d, p, b, f, n) = true := by
      unfold smB' at hp
      rw [Bool.and_eq_true] at hp
      exact hp.1
    have hdl := smCo_d hp1
    have hfl := smCo_f hp1
    refine ⟨_, ctr_fn okf hg22 Tryz.func22 (by kernel_rfl) (by kernel_rfl) (by kernel_rfl) fun C => ?_, h⟩
    show bodyP Ef G22 _ Tryz.f22 [coreAV x s d p b f n, .val (.int .i64 m)] [] _
    rw [e22]
    refine br_t hp (br_not (fun h1 => sm_f ?_) (fun h1 => br_dec (fun h2 => sm_f ?_) (fun h2 => ?_)))
    · unfold romB
      rw [h1]
      rfl
    · unfold romB
      rw [decide_eq_false (show ¬ m ≤ 120 by omega), Bool.and_false]
    have hR : romB (x, s, d, p, b, f, n) m = true := by
      unfold romB
      rw [h1, decide_eq_true (show m ≤ 120 by omega)]
      rfl
    refine loopUp okf22 hg22 (fun i (a : Int × Int) => st22 x s d p b f n m a.1 a.2 (13 + i)) (m - 13).toNat (fun i a => a = (((ctS d i : Nat) : Int), ((ctO d f i : Nat) : Int))) (fun N i a hi ha next => ?_) (0, 0) rfl
    subst ha
    show evP E22 G22 _ (lp22 6) (st22 x s d p b f n m ((ctS d i : Nat) : Int) ((ctO d f i : Nat) : Int) (13 + (i : Int))) (rk22 _ _ 6 _)
    have l1 := ctS_le d i
    have l2 := ctO_le d f i
    rw [b22, wrap_id (n := 13 + (i : Int) + 1) (by omega) (by omega), show (13 : Int) + (i : Int) + 1 = 13 + ((i : Int) + 1) from by omega, wrap_id (n := ((ctS d i : Nat) : Int) + 1) (by omega) (by omega), wrap_id (n := ((ctO d f i : Nat) : Int) + 1) (by omega) (by omega)]
    refine br_dec (fun h3 => br_yes hdl (br_intro (fun h4 => next (by omega) (_, _) ?_) (fun h4 => br_yes hfl (br_intro (fun h5 => next (by omega) (_, _) ?_) (fun h5 => next (by omega) (_, _) ?_))))) (fun h3 => br_t (by rw [hp1, decide_eq_true (show m ≤ 120 by omega)]; rfl) ?_)
    · rw [ctS_y h4, ctO_n (.inl h4)]
      rfl
    · rw [ctS_n h4, ctO_y h4 h5]
      rfl
    · rw [ctS_n h4, ctO_n (.inr h5)]
    · have : i = (m - 13).toNat := by omega
      rw [this]
      obtain ⟨q1, q2, q3⟩ := sm_t hR
      show _ = some (⟨.tup [.val (.int .i64 (smS (x, s, d, p, b, f, n) m)), .val (.int .i64 (smO (x, s, d, p, b, f, n) m)), .val (.int .i64 (smF (x, s, d, p, b, f, n) m))], [], []⟩ : Res)
      rw [q1, q2, q3]
  · exact h.elim
noncomputable def E23 : Env := Ef.of Tryz.f23
noncomputable def G23 : Gk := gk [(70, g70), (75, g75), (76, g76)]
noncomputable def lp23 (n : Nat) : Code := (loopOf n (codeOf Tryz.f23)).getD .skip
noncomputable def ct23 (L : Lp) (R : Option Res → Prop) (n : Nat) : Kt := contOf E23 G23 L n (codeOf Tryz.f23) (endK E23 Tryz.f23.results.toList R)
noncomputable def rk23 (L : Lp) (R : Option Res → Prop) (n : Nat) (N : St → Prop) : Kt := rk (jof E23 (lp23 n)) N (ct23 L R n)
noncomputable def rkn23 (L : Lp) (R : Option Res → Prop) (n : Nat) (N : St → Prop) (m : Nat) (N2 : St → Prop) : Kt := rk (jof E23 (lp23 m)) N2 (contOf E23 G23 L m (lp23 n) (rk23 L R n N))
noncomputable def LOOPN23 (L : Lp) (R : Option Res → Prop) (n : Nat) (N : St → Prop) (m : Nat) (st : St) : Prop := L (lp23 m) st (contOf E23 G23 L m (lp23 n) (rk23 L R n N))
noncomputable def LOOP23 (L : Lp) (R : Option Res → Prop) (n : Nat) (st : St) : Prop := L (lp23 n) st (ct23 L R n)
theorem hg23 : HG Tryz.prog G23 := (hg_cons h70 (hg_cons h75 (hg_cons h76 hg_nil)))
theorem okf23 : Ok Tryz.prog E23 := okf.of Tryz.f23
theorem e23 (L : Lp) (R : Option Res → Prop) (x : Int) (s : List (Elem kc)) (d p : List (Elem k3)) (b : Bool) (f : List (Elem ki)) (n m : Int) : (bodyP Ef G23 L Tryz.f23 [coreAV x s d p b f n, .val (.int .i64 m)] [] R) = (
    br (smB' (x, s, d, p, b, f, n)) (br (!romB (x, s, d, p, b, f, n) m) (R (some { av := AV.tup [vI 0, vI 0, vI 0], obs := [], outs := [] })) (LOOP23 L R 5 { tm := [vJ, vI m, AV.ptr 0 0, vJ, vJ, vJ, vJ, vI 0, vI 0, vI 0, vI 13, vJ, vJ, vJ, vJ, vJ, vJ, vJ, vJ, vJ, vJ, vJ, vJ, vJ, vJ, vJ, vJ, vJ, vJ, vJ, vJ, vJ, vJ, vJ, vJ, vJ, vJ, vJ, vJ, vJ, vJ, vJ, vJ, vJ], ob := [(0, AO.box [vI x, AV.rsl kc s, AV.rsl k3 d, AV.rsl k3 p, vB b, AV.rsl ki f, vI n])], nx := 1000000, ps := [] })) False) := by kernel_rfl
def st23 (x : Int) (s : List (Elem kc)) (d p : List (Elem k3)) (b : Bool) (f : List (Elem ki)) (n m : Int) (u v w i : Int) : St :=  ⟨[vJ, vI m, AV.ptr 0 0, vJ, vJ, vJ, vJ, .val (.int .i64 u), .val (.int .i64 v), .val (.int .i64 w), .val (.int .i64 i), vJ, vJ, vJ, vJ, vJ, vJ, vJ, vJ, vJ, vJ, vJ, vJ, vJ, vJ, vJ, vJ, vJ, vJ, vJ, vJ, vJ, vJ, vJ, vJ, vJ, vJ, vJ, vJ, vJ, vJ, vJ, vJ, vJ], [(0, AO.box [vI x, AV.rsl kc s, AV.rsl k3 d, AV.rsl k3 p, vB b, AV.rsl ki f, vI n])], 1000000, []⟩
theorem b23 (L : Lp) (R : Option Res → Prop) (N : St → Prop) (x : Int) (s : List (Elem kc)) (d p : List (Elem k3)) (b : Bool) (f : List (Elem ki)) (n m : Int) (u v w i : Int) : (evP E23 G23 L (lp23 5) (st23 x s d p b f n m u v w i) (rk23 L R 5 N)) = (
    br (decide (i < m)) (br (decide (d.length ≤ 1048576)) (br (bkD d i) (N { tm := [vJ, vI m, AV.ptr 0 0, vJ, vJ, vJ, vJ, vI (IntKind.i64.wrap (u + 1)), vI v, vI w, vI (IntKind.i64.wrap (i + 1)), vJ, vJ, vJ, vJ, vJ, vJ, vJ, vJ, vJ, vJ, vJ, vJ, vJ, vJ, vJ, vJ, vJ, vJ, vJ, vJ, vJ, vJ, vJ, vJ, vJ, vJ, vJ, vJ, vJ, vJ, vJ, vJ, vJ], ob := [(0, AO.box [vI x, AV.rsl kc s, AV.rsl k3 d, AV.rsl k3 p, vB b, AV.rsl ki f, vI n])], nx := 1000000, ps := [] }) (br (okC (x, s, d, p, b, f, n) && decide (0 ≤ i ∧ i ≤ 1000000)) (br (frB (x, s, d, p, b, f, n).snd.snd.fst (x, s, d, p, b, f, n).snd.snd.snd.snd.snd.fst i) (N { tm := [vJ, vI m, AV.ptr 0 0, vJ, vJ, vJ, vJ, vI u, vI v, vI (IntKind.i64.wrap (w + 1)), vI (IntKind.i64.wrap (i + 1)), vJ, vJ, vJ, vJ, vJ, vJ, vJ, vJ, vJ, vJ, vJ, vJ, vJ, vJ, vJ, vJ, vJ, vJ, vJ, vJ, vJ, vJ, vJ, vJ, vJ, vJ, vJ, vJ, vJ, vJ, vJ, vJ, vJ], ob := [(0, AO.box [vI x, AV.rsl kc s, AV.rsl k3 d, AV.rsl k3 p, vB b, AV.rsl ki f, vI n])], nx := 1000000, ps := [] }) (N { tm := [vJ, vI m, AV.ptr 0 0, vJ, vJ, vJ, vJ, vI u, vI (IntKind.i64.wrap (v + 1)), vI w, vI (IntKind.i64.wrap (i + 1)), vJ, vJ, vJ, vJ, vJ, vJ, vJ, vJ, vJ, vJ, vJ, vJ, vJ, vJ, vJ, vJ, vJ, vJ, vJ, vJ, vJ, vJ, vJ, vJ, vJ, vJ, vJ, vJ, vJ, vJ, vJ, vJ, vJ], ob := [(0, AO.box [vI x, AV.rsl kc s, AV.rsl k3 d, AV.rsl k3 p, vB b, AV.rsl ki f, vI n])], nx := 1000000, ps := [] })) False)) False) (R (some { av := AV.tup [vI u, vI v, vI w], obs := [], outs := [] }))) := by kernel_rfl
theorem h23 : G1Ok Tryz.prog 23 g22 := by
  intro args obs k h
  unfold g22 at h
  split at h
  · rename_i k us m
    split at h
    rotate_left
    · exact h.elim
    rename_i c hc
    obtain rfl := coreOf_inv hc
    obtain ⟨x, s, d, p, b, f, n⟩ := c
    obtain ⟨hp, h⟩ := br_and h
    have hp1 : smCo (x, s, d, p, b, f, n) = true := by
      unfold smB' at hp
      rw [Bool.and_eq_true] at hp
      exact hp.1
    have hdl := smCo_d hp1
    have hfl := smCo_f hp1
    refine ⟨_, ctr_fn okf hg23 Tryz.func23 (by kernel_rfl) (by kernel_rfl) (by kernel_rfl) fun C => ?_, h⟩
    show bodyP Ef G23 _ Tryz.f23 [coreAV x s d p b f n, .val (.int .i64 m)] [] _
    rw [e23]
    refine br_t hp (br_not (fun h1 => sm_f h1) (fun h1 => ?_))
    obtain ⟨hk, hm⟩ := rom_ok h1 hp
    have hdo : ddtOk d = true := (cok_plc (rom_inv h1).1).1
    refine loopUp okf23 hg23 (fun i (a : Int × Int × Int) => st23 x s d p b f n m a.1 a.2.1 a.2.2 (13 + i)) (m - 13).toNat (fun i a => a = (((ctS d i : Nat) : Int), ((ctO d f i : Nat) : Int), (((frP d f i).length : Nat) : Int))) (fun N i a hi ha next => ?_) (0, 0, 0) rfl
    subst ha
    show evP E23 G23 _ (lp23 5) (st23 x s d p b f n m ((ctS d i : Nat) : Int) ((ctO d f i : Nat) : Int) (((frP d f i).length : Nat) : Int) (13 + (i : Int))) (rk23 _ _ 5 _)
    have l1 := ctS_le d i
    have l2 := ctO_le d f i
    have l3 := frP_len d f i
    rw [b23, wrap_id (n := 13 + (i : Int) + 1) (by omega) (by omega), show (13 : Int) + (i : Int) + 1 = 13 + ((i : Int) + 1) from by omega, wrap_id (n := ((ctS d i : Nat) : Int) + 1) (by omega) (by omega), wrap_id (n := ((ctO d f i : Nat) : Int) + 1) (by omega) (by omega), wrap_id (n := (((frP d f i).length : Nat) : Int) + 1) (by omega) (by omega)]
    refine br_dec (fun h3 => br_yes hdl ?_) (fun h3 => ?_)
    · rw [bk_okD hdo (by omega) (by omega)]
      refine br_intro (fun h4 => next (by omega) (_, _, _) ?_) (fun h4 => br_t (by rw [hk, decide_eq_true (show 0 ≤ 13 + (i : Int) ∧ 13 + (i : Int) ≤ 1000000 by omega)]; rfl) (br_intro (fun h5 => next (by omega) (_, _, _) ?_) (fun h5 => next (by omega) (_, _, _) ?_)))
      · rw [ctS_y h4, ctO_n (.inl h4), frP_n (fr_o h4)]
        rfl
      · have h5 : frB d f (13 + (i : Int)) = true := h5
        have h6 : hasF f (13 + (i : Int)) = false := by
          cases hh : hasF f (13 + (i : Int)) with
          | false => rfl
          | true => rw [fr_h hh] at h5; cases h5
        rw [ctS_n h4, ctO_n (.inr h6), frP_y h5]
        rfl
      · have h5 : frB d f (13 + (i : Int)) = false := h5
        have h6 : hasF f (13 + (i : Int)) = true := by
          cases hh : hasF f (13 + (i : Int)) with
          | true => rfl
          | false => rw [fr_t h4 hh] at h5; cases h5
        rw [ctS_n h4, ctO_y h4 h6, frP_n h5]
        rfl
    · have : i = (m - 13).toNat := by omega
      rw [this]
      obtain ⟨q1, q2, q3⟩ := sm_t h1
      show _ = some (⟨.tup [.val (.int .i64 (smS (x, s, d, p, b, f, n) m)), .val (.int .i64 (smO (x, s, d, p, b, f, n) m)), .val (.int .i64 (smF (x, s, d, p, b, f, n) m))], [], []⟩ : Res)
      rw [q1, q2, q3]
      rfl
  · exact h.elim
noncomputable def E5 : Env := E0.of Tryz.f5
noncomputable def G5 : Gk := gk [(11, g11), (13, g13), (22, g22), (23, g22), (16, g16)]
noncomputable def lp5 (n : Nat) : Code := (loopOf n (codeOf Tryz.f5)).getD .skip
noncomputable def ct5 (L : Lp) (R : Option Res → Prop) (n : Nat) : Kt := contOf E5 G5 L n (codeOf Tryz.f5) (endK E5 Tryz.f5.results.toList R)
noncomputable def rk5 (L : Lp) (R : Option Res → Prop) (n : Nat) (N : St → Prop) : Kt := rk (jof E5 (lp5 n)) N (ct5 L R n)
noncomputable def rkn5 (L : Lp) (R : Option Res → Prop) (n : Nat) (N : St → Prop) (m : Nat) (N2 : St → Prop) : Kt := rk (jof E5 (lp5 m)) N2 (contOf E5 G5 L m (lp5 n) (rk5 L R n N))
noncomputable def LOOPN5 (L : Lp) (R : Option Res → Prop) (n : Nat) (N : St → Prop) (m : Nat) (st : St) : Prop := L (lp5 m) st (contOf E5 G5 L m (lp5 n) (rk5 L R n N))
noncomputable def LOOP5 (L : Lp) (R : Option Res → Prop) (n : Nat) (st : St) : Prop := L (lp5 n) st (ct5 L R n)
theorem hg5 : HG Tryz.prog G5 := (hg_cons h11 (hg_cons h13 (hg_cons h22 (hg_cons h23 (hg_cons h16 hg_nil)))))
theorem okf5 : Ok Tryz.prog E5 := ok0.of Tryz.f5
theorem e5 (L : Lp) (R : Option Res → Prop) (x : Int) (s : List (Elem kc)) (d p : List (Elem k3)) (b : Bool) (f : List (Elem ki)) (n m : Int) : (bodyP E0 G5 L Tryz.f5 [coreAV x s d p b f n, .val (.int .i64 m)] [] R) = (
    br (inCo (x, s, d, p, b, f, n) && true) (br (decide (szR 1048576 (szCo (x, s, d, p, b, f, n)) < 0)) (R (some { av := vB true, obs := [], outs := [] })) (br (smCo (x, s, d, p, b, f, n)) (br (smB' (x, s, d, p, b, f, n)) (br (smCo (x, s, d, p, b, f, n)) (br (smB' (x, s, d, p, b, f, n)) (br (smS (x, s, d, p, b, f, n) m != smS (x, s, d, p, b, f, n) m) (R (some { av := vB false, obs := [], outs := [] })) (br (smO (x, s, d, p, b, f, n) m != smO (x, s, d, p, b, f, n) m) (R (some { av := vB false, obs := [], outs := [] })) (br (smF (x, s, d, p, b, f, n) m != smF (x, s, d, p, b, f, n) m) (R (some { av := vB false, obs := [], outs := [] })) (br (smCo (x, s, d, p, b, f, n)) (br (smCo (x, s, d, p, b, f, n)) (br (!eqCo (x, s, d, p, b, f, n) (x, s, d, p, b, f, n)) (R (some { av := vB false, obs := [], outs := [] })) (R (some { av := vB true, obs := [], outs := [] }))) False) False)))) False) False) False) False)) False) := by kernel_rfl
theorem bne_self_i (a : Int) : (a != a) = false := by simp
theorem c5 (x : Int) (s : List (Elem kc)) (d p : List (Elem k3)) (b : Bool) (f : List (Elem ki)) (n m : Int) (h : coOk x s d p b f n) : Ctr Tryz.prog 5 [coreAV x s d p b f n, .val (.int .i64 m)] [] ⟨.val (.bool true), [], []⟩ := by
  refine ctr_fn ok0 hg5 Tryz.func5 (by kernel_rfl) (by kernel_rfl) (by kernel_rfl) fun C => ?_
  rw [e5, inCo_of h]
  refine br_t rfl (br_dec (fun _ => rfl) (fun h1 => ?_))
  have hs := smCo_of (Int.le_refl _) h1
  have hb := smB'_of (Int.le_refl _) h1
  rw [hs, hb, eqCo_self, bne_self_i, bne_self_i, bne_self_i]
  exact br_t rfl (br_t rfl (br_t rfl (br_t rfl (br_f rfl (br_f rfl (br_f rfl (br_t rfl (br_t rfl (br_f rfl rfl)))))))))
end Go.Proofs.YtkjnijddbiconaaGreatDoor.Ev
