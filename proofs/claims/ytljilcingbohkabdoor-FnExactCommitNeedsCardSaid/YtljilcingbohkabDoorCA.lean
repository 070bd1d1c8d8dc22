/- The law of CommitNeeds. -/
import Derived.Test.YtljilcingbohkabDoorC9
import Derived.Test.YtljilcingbohkabDoorD6
namespace Go.Proofs.YtljilcingbohkabDoor.Ev
open Go
set_option linter.unusedVariables false
set_option linter.unusedSimpArgs false
set_option maxRecDepth 100000
set_option maxHeartbeats 1000000
def prt1 (xs : List (Elem k3)) (j : Nat) : Elem ks := (ddtT ((xs.take (min (6 * j + 6) xs.length)).drop (6 * j)), ())
def prtL (xs : List (Elem k3)) : List (Elem ks) := (List.range ((xs.length + 5) / 6)).map (prt1 xs)
def g131 : G1
  | [.rsl [.int .i64, .int .i64, .int .i64] xs], [], k => br (decide (xs.length ≤ 48)) (k ⟨.ows 0, [.row [.str] (prtL xs)], []⟩) False
  | _, _, _ => False
def drt (e : Elem kc) : Bool := e.2.2.2.2.2.2.2.2.2.2.2.2.2.2.2.2.2.2.2.2.2.2.2.2.2.2.2.2.2.2.1
def ndN (s : List (Elem kc)) (d : List (Elem k3)) (b : Bool) : Nat := 1 + s.countP drt + match b with | true => (d.length + 5) / 6 | false => 0
def g76 : G1
  | [.agg us], [], k => match coreOf us with
    | some c => br (smCo c && decide (c.2.2.1.length ≤ 48)) (k ⟨.val (.int .i64 (ndN c.2.1 c.2.2.1 c.2.2.2.2.1)), [], []⟩) False
    | none => False
  | _, _, _ => False
def needs (x : Int) (s : List (Elem kc)) (d p : List (Elem k3)) (b : Bool) (f : List (Elem ki)) (n : Int) : Int := match coreOk x s d p f n with
  | true => ndN s d b
  | false => 0
def g17 : G1
  | [.agg us], [], k => match coreOf us with
    | some c => br (smB' c) (k ⟨.val (.int .i64 (needs c.1 c.2.1 c.2.2.1 c.2.2.2.1 c.2.2.2.2.1 c.2.2.2.2.2.1 c.2.2.2.2.2.2)), [], []⟩) False
    | none => False
  | _, _, _ => False
noncomputable def E131 : Env := Ef.of Tryd.f131
noncomputable def G131 : Gk := gk [(96, g96)]
noncomputable def lp131 (n : Nat) : Code := (loopOf n (codeOf Tryd.f131)).getD .skip
noncomputable def ct131 (L : Lp) (R : Option Res → Prop) (n : Nat) : Kt := contOf E131 G131 L n (codeOf Tryd.f131) (endK E131 Tryd.f131.results.toList R)
noncomputable def rk131 (L : Lp) (R : Option Res → Prop) (n : Nat) (N : St → Prop) : Kt := rk (jof E131 (lp131 n)) N (ct131 L R n)
noncomputable def rkn131 (L : Lp) (R : Option Res → Prop) (n : Nat) (N : St → Prop) (m : Nat) (N2 : St → Prop) : Kt := rk (jof E131 (lp131 m)) N2 (contOf E131 G131 L m (lp131 n) (rk131 L R n N))
noncomputable def LOOPN131 (L : Lp) (R : Option Res → Prop) (n : Nat) (N : St → Prop) (m : Nat) (st : St) : Prop := L (lp131 m) st (contOf E131 G131 L m (lp131 n) (rk131 L R n N))
noncomputable def LOOP131 (L : Lp) (R : Option Res → Prop) (n : Nat) (st : St) : Prop := L (lp131 n) st (ct131 L R n)
theorem hg131 : HG Tryd.prog G131 := (hg_cons h96 hg_nil)
theorem okf131 : Ok Tryd.prog E131 := okf.of Tryd.f131
theorem e131 (L : Lp) (R : Option Res → Prop) (xs : List (Elem k3)) : (bodyP Ef G131 L Tryd.f131 [.rsl k3 xs] [] R) = (
    LOOP131 L R 3 { tm := [AV.rsl k3 xs, vJ, vJ, AV.ows 0, vI 0, vJ, vJ, vJ, vJ, vJ, vJ, vJ, vJ, vJ, vJ, vJ, vJ, vJ, vJ, vJ, vJ, vJ, vJ, vJ, vJ, vJ, vJ, vJ, vJ, vJ], ob := [(0, AO.row ks [])], nx := 1000000, ps := [] }) := by kernel_rfl
def st131 (xs : List (Elem k3)) (i : Int) (ys : List (Elem ks)) : St :=  ⟨[AV.rsl k3 xs, vJ, vJ, AV.ows 0, .val (.int .i64 i), vJ, vJ, vJ, vJ, vJ, vJ, vJ, vJ, vJ, vJ, vJ, vJ, vJ, vJ, vJ, vJ, vJ, vJ, vJ, vJ, vJ, vJ, vJ, vJ, vJ], [(0, .row ks ys)], 1000000, []⟩
theorem b131 (L : Lp) (R : Option Res → Prop) (N : St → Prop) (xs : List (Elem k3)) (i : Int) (ys : List (Elem ks)) : (evP E131 G131 L (lp131 3) (st131 xs i ys) (rk131 L R 3 N)) = (
    br (decide (i < (↑xs.length : Int))) (br (decide (IntKind.i64.wrap (i + 6) > (↑xs.length : Int))) (br (decide (0 ≤ i ∧ i ≤ (↑xs.length : Int) ∧ (↑xs.length : Int) ≤ (↑xs.length : Int) ∧ (↑xs.length : Int) ≤ (↑xs.length : Int))) (br (decide ((List.drop i.toNat (List.take (↑xs.length : Int).toNat xs)).length ≤ 1048576)) (br (decide ((ys.length + [(ddtT (List.drop i.toNat (List.take (↑xs.length : Int).toNat xs)), ())].length) * 16 ≤ 140737488355328)) (N { tm := [AV.rsl k3 xs, vJ, vJ, AV.ows 0, vI (IntKind.i64.wrap (i + 6)), vJ, vJ, vJ, vJ, vJ, vJ, vJ, vJ, vJ, vJ, vJ, vJ, vJ, vJ, vJ, vJ, vJ, vJ, vJ, vJ, vJ, vJ, vJ, vJ, vJ], ob := [(0, AO.row ks (ys ++ [(ddtT (List.drop i.toNat (List.take (↑xs.length : Int).toNat xs)), ())]))], nx := 1000000, ps := [] }) False) False) False) (br (decide (0 ≤ i ∧ i ≤ IntKind.i64.wrap (i + 6) ∧ IntKind.i64.wrap (i + 6) ≤ (↑xs.length : Int) ∧ (↑xs.length : Int) ≤ (↑xs.length : Int))) (br (decide ((List.drop i.toNat (List.take (IntKind.i64.wrap (i + 6)).toNat xs)).length ≤ 1048576)) (br (decide ((ys.length + [(ddtT (List.drop i.toNat (List.take (IntKind.i64.wrap (i + 6)).toNat xs)), ())].length) * 16 ≤ 140737488355328)) (N { tm := [AV.rsl k3 xs, vJ, vJ, AV.ows 0, vI (IntKind.i64.wrap (i + 6)), vJ, vJ, vJ, vJ, vJ, vJ, vJ, vJ, vJ, vJ, vJ, vJ, vJ, vJ, vJ, vJ, vJ, vJ, vJ, vJ, vJ, vJ, vJ, vJ, vJ], ob := [(0, AO.row ks (ys ++ [(ddtT (List.drop i.toNat (List.take (IntKind.i64.wrap (i + 6)).toNat xs)), ())]))], nx := 1000000, ps := [] }) False) False) False)) (R (some { av := AV.ows 0, obs := [AO.row ks ys], outs := [] }))) := by kernel_rfl
theorem prtL_len (xs : List (Elem k3)) : (prtL xs).length = (xs.length + 5) / 6 := by unfold prtL; rw [List.length_map, List.length_range]
theorem prtL_next (xs : List (Elem k3)) {j : Nat} (hj : j < (xs.length + 5) / 6) : (prtL xs).take (j + 1) = (prtL xs).take j ++ [prt1 xs j] := by
  unfold prtL
  rw [List.take_add_one, List.getElem?_map, List.getElem?_range hj]
  rfl
theorem h131 : G1Ok Tryd.prog 131 g131 := by
  intro args obs k h
  unfold g131 at h
  split at h
  · rename_i k xs
    obtain ⟨hl, h⟩ := brd h
    refine ⟨_, ctr_fn okf hg131 Tryd.func131 (by kernel_rfl) (by kernel_rfl) (by kernel_rfl) fun C => ?_, h⟩
    rw [e131]
    refine loopUp okf131 hg131 (fun i ys => st131 xs (6 * i) ys) ((xs.length + 5) / 6) (fun i ys => ys = (prtL xs).take i) (fun N i ys hi hy next => ?_) [] rfl
    show evP E131 G131 _ (lp131 3) (st131 xs (6 * (i : Int)) ys) (rk131 _ _ 3 _)
    have hw : IntKind.i64.wrap (6 * (i : Int) + 6) = 6 * ((i : Int) + 1) := by rw [wrap_id (by omega) (by omega)]; omega
    have hyl : ys.length ≤ 48 := by rw [hy, List.length_take, prtL_len]; omega
    have ht : (6 * (i : Int)).toNat = 6 * i := by omega
    rw [b131, hw, ht]
    refine br_dec (fun h2 => br_dec (fun h3 => br_yes ⟨by omega, by omega, by omega, by omega⟩ (br_yes ?_ (br_yes ?_ ?_))) (fun h3 => br_yes ⟨by omega, by omega, by omega, by omega⟩ (br_yes ?_ (br_yes ?_ ?_)))) (fun h2 => ?_)
    · rw [List.length_drop, List.length_take]
      omega
    · show (ys.length + 1) * 16 ≤ _
      omega
    · refine next (by omega) _ ?_
      rw [hy, prtL_next xs (by omega), Int.toNat_natCast]
      unfold prt1
      rw [Nat.min_eq_right (by omega)]
    · rw [List.length_drop, List.length_take]
      omega
    · show (ys.length + 1) * 16 ≤ _
      omega
    · refine next (by omega) _ ?_
      rw [hy, prtL_next xs (by omega), show (6 * ((i : Int) + 1)).toNat = 6 * i + 6 from by omega]
      unfold prt1
      rw [Nat.min_eq_left (by omega)]
    · show _ = _
      rw [hy, List.take_of_length_le (by rw [prtL_len]; omega)]
  · exact h.elim
noncomputable def E76 : Env := Ef.of Tryd.f76
noncomputable def G76 : Gk := gk [(131, g131)]
noncomputable def lp76 (n : Nat) : Code := (loopOf n (codeOf Tryd.f76)).getD .skip
noncomputable def ct76 (L : Lp) (R : Option Res → Prop) (n : Nat) : Kt := contOf E76 G76 L n (codeOf Tryd.f76) (endK E76 Tryd.f76.results.toList R)
noncomputable def rk76 (L : Lp) (R : Option Res → Prop) (n : Nat) (N : St → Prop) : Kt := rk (jof E76 (lp76 n)) N (ct76 L R n)
noncomputable def rkn76 (L : Lp) (R : Option Res → Prop) (n : Nat) (N : St → Prop) (m : Nat) (N2 : St → Prop) : Kt := rk (jof E76 (lp76 m)) N2 (contOf E76 G76 L m (lp76 n) (rk76 L R n N))
noncomputable def LOOPN76 (L : Lp) (R : Option Res → Prop) (n : Nat) (N : St → Prop) (m : Nat) (st : St) : Prop := L (lp76 m) st (contOf E76 G76 L m (lp76 n) (rk76 L R n N))
noncomputable def LOOP76 (L : Lp) (R : Option Res → Prop) (n : Nat) (st : St) : Prop := L (lp76 n) st (ct76 L R n)
theorem hg76 : HG Tryd.prog G76 := (hg_cons h131 hg_nil)
theorem okf76 : Ok Tryd.prog E76 := okf.of Tryd.f76
theorem e76 (L : Lp) (R : Option Res → Prop) (x : Int) (s : List (Elem kc)) (d p : List (Elem k3)) (b : Bool) (f : List (Elem ki)) (n : Int) : (bodyP Ef G76 L Tryd.f76 [coreAV x s d p b f n] [] R) = (
    LOOP76 L R 3 { tm := [vJ, AV.ptr 0 0, vJ, vI 1, vI 0, vJ, vJ, vJ, vJ, vJ, vJ, vJ, vJ, vJ, vJ, vJ, vJ, vJ, vJ, vJ, vJ, vJ, vJ, vJ, vJ, vJ, vJ, vJ, vJ], ob := [(0, AO.box [vI x, AV.rsl kc s, AV.rsl k3 d, AV.rsl k3 p, vB b, AV.rsl ki f, vI n])], nx := 1000000, ps := [] }) := by kernel_rfl
def st76 (x : Int) (s : List (Elem kc)) (d p : List (Elem k3)) (b : Bool) (f : List (Elem ki)) (n : Int) (m i : Int) : St :=  ⟨[vJ, AV.ptr 0 0, vJ, .val (.int .i64 m), .val (.int .i64 i), vJ, vJ, vJ, vJ, vJ, vJ, vJ, vJ, vJ, vJ, vJ, vJ, vJ, vJ, vJ, vJ, vJ, vJ, vJ, vJ, vJ, vJ, vJ, vJ], [(0, AO.box [vI x, AV.rsl kc s, AV.rsl k3 d, AV.rsl k3 p, vB b, AV.rsl ki f, vI n])], 1000000, []⟩
theorem b76 (L : Lp) (R : Option Res → Prop) (N : St → Prop) (x : Int) (s : List (Elem kc)) (d p : List (Elem k3)) (b : Bool) (f : List (Elem ki)) (n : Int) (m i : Int) : (evP E76 G76 L (lp76 3) (st76 x s d p b f n m i) (rk76 L R 3 N)) = (
    br (decide (i < (↑s.length : Int))) (br (decide (0 ≤ i ∧ i < (↑s.length : Int))) (br (s.getD i.toNat (edflt kc)).snd.snd.snd.snd.snd.snd.snd.snd.snd.snd.snd.snd.snd.snd.snd.snd.snd.snd.snd.snd.snd.snd.snd.snd.snd.snd.snd.snd.snd.snd.fst (N { tm := [vJ, AV.ptr 0 0, vJ, vI (IntKind.i64.wrap (m + 1)), vI (IntKind.i64.wrap (i + 1)), vJ, vJ, vJ, vJ, vJ, vJ, vJ, vJ, vJ, vJ, vJ, vJ, vJ, vJ, vJ, vJ, vJ, vJ, vJ, vJ, vJ, vJ, vJ, vJ], ob := [(0, AO.box [vI x, AV.rsl kc s, AV.rsl k3 d, AV.rsl k3 p, vB b, AV.rsl ki f, vI n])], nx := 1000000, ps := [] }) (N { tm := [vJ, AV.ptr 0 0, vJ, vI m, vI (IntKind.i64.wrap (i + 1)), vJ, vJ, vJ, vJ, vJ, vJ, vJ, vJ, vJ, vJ, vJ, vJ, vJ, vJ, vJ, vJ, vJ, vJ, vJ, vJ, vJ, vJ, vJ, vJ], ob := [(0, AO.box [vI x, AV.rsl kc s, AV.rsl k3 d, AV.rsl k3 p, vB b, AV.rsl ki f, vI n])], nx := 1000000, ps := [] })) False) (br b (br (decide (d.length ≤ 48)) (R (some { av := vI (IntKind.i64.wrap (m + (↑(prtL d).length : Int))), obs := [], outs := [] })) False) (R (some { av := vI m, obs := [], outs := [] })))) := by kernel_rfl
theorem ndN_t (s : List (Elem kc)) (d : List (Elem k3)) : ndN s d true = 1 + s.countP drt + (d.length + 5) / 6 := rfl
theorem ndN_f (s : List (Elem kc)) (d : List (Elem k3)) : ndN s d false = 1 + s.countP drt := rfl
theorem dc_next (s : List (Elem kc)) {i : Nat} (hi : i < s.length) : (s.take (i + 1)).countP drt = (s.take i).countP drt + if drt (atC s i) = true then 1 else 0 := by
  rw [take_next s (edflt kc) hi, List.countP_append, List.countP_cons, List.countP_nil]
  simp
theorem h76 : G1Ok Tryd.prog 76 g76 := by
  intro args obs k h
  unfold g76 at h
  split at h
  · rename_i k us
    split at h
    rotate_left
    · exact h.elim
    rename_i c hc
    obtain rfl := coreOf_inv hc
    obtain ⟨x, s, d, p, b, f, n⟩ := c
    obtain ⟨hp, hd, h⟩ := brb2 h
    have hl := smCo_s hp
    have hd' : d.length ≤ 48 := of_decide_eq_true hd
    refine ⟨_, ctr_fn okf hg76 Tryd.func76 (by kernel_rfl) (by kernel_rfl) (by kernel_rfl) fun C => ?_, h⟩
    show bodyP Ef G76 _ Tryd.f76 [coreAV x s d p b f n] [] _
    rw [e76]
    refine loopUp okf76 hg76 (fun i m => st76 x s d p b f n m i) s.length (fun i m => m = ((1 + (s.take i).countP drt : Nat) : Int)) (fun N i m hi hm next => ?_) 1 rfl
    show evP E76 G76 _ (lp76 3) (st76 x s d p b f n m i) (rk76 _ _ 3 _)
    have hc := List.countP_le_length (p := drt) (l := s.take i)
    rw [List.length_take] at hc
    rw [b76, Int.toNat_natCast, wrap_id (n := (i : Int) + 1) (by omega) (by omega), wrap_id (n := m + 1) (by omega) (by omega), prtL_len, wrap_id (n := m + _) (by omega) (by omega)]
    refine br_dec (fun h2 => br_yes ⟨by omega, h2⟩ (br_intro (fun h3 => ?_) (fun h3 => ?_))) (fun h2 => br_intro (fun h3 => br_yes hd' ?_) (fun h3 => ?_))
    · refine next (by omega) _ ?_
      rw [dc_next s (by omega), if_pos (show drt (atC s i) = true from h3)]
      omega
    · refine next (by omega) _ ?_
      rw [dc_next s (by omega), if_neg (by rw [show drt (atC s i) = false from h3]; exact Bool.false_ne_true)]
      omega
    · show _ = _
      rw [List.take_of_length_le (by omega)] at hm
      show _ = (some ⟨.val (.int .i64 ((ndN s d b : Nat) : Int)), [], []⟩ : Option Res)
      rw [h3, ndN_t]
      exact resI (by omega)
    · show _ = _
      rw [List.take_of_length_le (by omega)] at hm
      show _ = (some ⟨.val (.int .i64 ((ndN s d b : Nat) : Int)), [], []⟩ : Option Res)
      rw [h3, ndN_f]
      exact resI (by omega)
  · exact h.elim
noncomputable def E17 : Env := Ef.of Tryd.f17
noncomputable def G17 : Gk := gk [(13, g13), (76, g76)]
noncomputable def lp17 (n : Nat) : Code := (loopOf n (codeOf Tryd.f17)).getD .skip
noncomputable def ct17 (L : Lp) (R : Option Res → Prop) (n : Nat) : Kt := contOf E17 G17 L n (codeOf Tryd.f17) (endK E17 Tryd.f17.results.toList R)
noncomputable def rk17 (L : Lp) (R : Option Res → Prop) (n : Nat) (N : St → Prop) : Kt := rk (jof E17 (lp17 n)) N (ct17 L R n)
noncomputable def rkn17 (L : Lp) (R : Option Res → Prop) (n : Nat) (N : St → Prop) (m : Nat) (N2 : St → Prop) : Kt := rk (jof E17 (lp17 m)) N2 (contOf E17 G17 L m (lp17 n) (rk17 L R n N))
noncomputable def LOOPN17 (L : Lp) (R : Option Res → Prop) (n : Nat) (N : St → Prop) (m : Nat) (st : St) : Prop := L (lp17 m) st (contOf E17 G17 L m (lp17 n) (rk17 L R n N))
noncomputable def LOOP17 (L : Lp) (R : Option Res → Prop) (n : Nat) (st : St) : Prop := L (lp17 n) st (ct17 L R n)
theorem hg17 : HG Tryd.prog G17 := (hg_cons h13 (hg_cons h76 hg_nil))
theorem okf17 : Ok Tryd.prog E17 := okf.of Tryd.f17
theorem e17 (L : Lp) (R : Option Res → Prop) (x : Int) (s : List (Elem kc)) (d p : List (Elem k3)) (b : Bool) (f : List (Elem ki)) (n : Int) : (bodyP Ef G17 L Tryd.f17 [coreAV x s d p b f n] [] R) = (
    br (smB' (x, s, d, p, b, f, n)) (br (!coreOk (x, s, d, p, b, f, n).fst (x, s, d, p, b, f, n).snd.fst (x, s, d, p, b, f, n).snd.snd.fst (x, s, d, p, b, f, n).snd.snd.snd.fst (x, s, d, p, b, f, n).snd.snd.snd.snd.snd.fst (x, s, d, p, b, f, n).snd.snd.snd.snd.snd.snd) (R (some { av := vI 0, obs := [], outs := [] })) (br (smCo (x, s, d, p, b, f, n) && decide ((x, s, d, p, b, f, n).snd.snd.fst.length ≤ 48)) (R (some { av := vI (↑(ndN (x, s, d, p, b, f, n).snd.fst (x, s, d, p, b, f, n).snd.snd.fst (x, s, d, p, b, f, n).snd.snd.snd.snd.fst) : Int), obs := [], outs := [] })) False)) False) := by kernel_rfl
theorem needs_f {x : Int} {s : List (Elem kc)} {d p : List (Elem k3)} {b : Bool} {f : List (Elem ki)} {n : Int} (h : coreOk x s d p f n = false) : needs x s d p b f n = 0 := by unfold needs; rw [h]
theorem needs_t {x : Int} {s : List (Elem kc)} {d p : List (Elem k3)} {b : Bool} {f : List (Elem ki)} {n : Int} (h : coreOk x s d p f n = true) : needs x s d p b f n = ndN s d b := by unfold needs; rw [h]
theorem cok_ddt {x : Int} {s : List (Elem kc)} {d p : List (Elem k3)} {f : List (Elem ki)} {n : Int} (h : coreOk x s d p f n = true) : ddtOk d = true := by
  cases hd : ddtOk d with
  | true => rfl
  | false => rw [cok_d hd] at h; cases h
theorem h17 : G1Ok Tryd.prog 17 g17 := by
  intro args obs k h
  unfold g17 at h
  split at h
  · rename_i k us
    split at h
    rotate_left
    · exact h.elim
    rename_i c hc
    obtain rfl := coreOf_inv hc
    obtain ⟨x, s, d, p, b, f, n⟩ := c
    obtain ⟨hpp, h⟩ := br_and h
    unfold smB' at hpp
    rw [Bool.and_eq_true] at hpp
    obtain ⟨hp, hcs⟩ := hpp
    have hcs : smCs s = true := hcs
    have hl := smCo_s hp
    have hdl := smCo_d hp
    have hpl := smCo_p hp
    have hfl := smCo_f hp
    refine ⟨_, ctr_fn okf hg17 Tryd.func17 (by kernel_rfl) (by kernel_rfl) (by kernel_rfl) fun C => ?_, h⟩
    show bodyP Ef G17 _ Tryd.f17 [coreAV x s d p b f n] [] _
    rw [e17]
    have hpp : smB' (x, s, d, p, b, f, n) = true := by unfold smB'; rw [hp, Bool.true_and]; exact hcs
    refine br_t hpp (br_not (fun h1 => ?_) (fun h1 => ?_))
    · show _ = _
      rw [needs_f h1]
    · have hd := ddt_len (cok_ddt h1)
      refine br_t (by rw [hp, Bool.true_and]; exact decide_eq_true hd) ?_
      show _ = _
      rw [needs_t h1]
  · exact h.elim
noncomputable def E18 : Env := Ef.of Tryd.f18
noncomputable def G18 : Gk := gk [(15, g13)]
noncomputable def lp18 (n : Nat) : Code := (loopOf n (codeOf Tryd.f18)).getD .skip
noncomputable def ct18 (L : Lp) (R : Option Res → Prop) (n : Nat) : Kt := contOf E18 G18 L n (codeOf Tryd.f18) (endK E18 Tryd.f18.results.toList R)
noncomputable def rk18 (L : Lp) (R : Option Res → Prop) (n : Nat) (N : St → Prop) : Kt := rk (jof E18 (lp18 n)) N (ct18 L R n)
noncomputable def rkn18 (L : Lp) (R : Option Res → Prop) (n : Nat) (N : St → Prop) (m : Nat) (N2 : St → Prop) : Kt := rk (jof E18 (lp18 m)) N2 (contOf E18 G18 L m (lp18 n) (rk18 L R n N))
noncomputable def LOOPN18 (L : Lp) (R : Option Res → Prop) (n : Nat) (N : St → Prop) (m : Nat) (st : St) : Prop := L (lp18 m) st (contOf E18 G18 L m (lp18 n) (rk18 L R n N))
noncomputable def LOOP18 (L : Lp) (R : Option Res → Prop) (n : Nat) (st : St) : Prop := L (lp18 n) st (ct18 L R n)
theorem hg18 : HG Tryd.prog G18 := (hg_cons h15 hg_nil)
theorem okf18 : Ok Tryd.prog E18 := okf.of Tryd.f18
theorem e18 (L : Lp) (R : Option Res → Prop) (x : Int) (s : List (Elem kc)) (d p : List (Elem k3)) (b : Bool) (f : List (Elem ki)) (n : Int) : (bodyP Ef G18 L Tryd.f18 [coreAV x s d p b f n] [] R) = (
    br (smB' (x, s, d, p, b, f, n)) (br (!coreOk (x, s, d, p, b, f, n).fst (x, s, d, p, b, f, n).snd.fst (x, s, d, p, b, f, n).snd.snd.fst (x, s, d, p, b, f, n).snd.snd.snd.fst (x, s, d, p, b, f, n).snd.snd.snd.snd.snd.fst (x, s, d, p, b, f, n).snd.snd.snd.snd.snd.snd) (R (some { av := vI 0, obs := [], outs := [] })) (LOOP18 L R 5 { tm := [vJ, AV.ptr 0 0, vJ, vI 1, vJ, vJ, vJ, vJ, vJ, vJ, AV.rsl kc s, vI (↑s.length : Int), vI 0, vJ, vJ, vJ, vJ, vJ, vJ, vJ, vJ, vJ, vJ, vJ, vJ, vJ, vJ, vJ, vJ, vJ, vJ, vJ], ob := [(0, AO.box [vI x, AV.rsl kc s, AV.rsl k3 d, AV.rsl k3 p, vB b, AV.rsl ki f, vI n])], nx := 1000000, ps := [] })) False) := by kernel_rfl
def st18 (x : Int) (s : List (Elem kc)) (d p : List (Elem k3)) (b : Bool) (f : List (Elem ki)) (n : Int) (m i : Int) : St :=  ⟨[vJ, AV.ptr 0 0, vJ, .val (.int .i64 m), vJ, vJ, vJ, vJ, vJ, vJ, AV.rsl kc s, vI (↑s.length : Int), .val (.int .i64 i), vJ, vJ, vJ, vJ, vJ, vJ, vJ, vJ, vJ, vJ, vJ, vJ, vJ, vJ, vJ, vJ, vJ, vJ, vJ], [(0, AO.box [vI x, AV.rsl kc s, AV.rsl k3 d, AV.rsl k3 p, vB b, AV.rsl ki f, vI n])], 1000000, []⟩
theorem b18 (L : Lp) (R : Option Res → Prop) (N : St → Prop) (x : Int) (s : List (Elem kc)) (d p : List (Elem k3)) (b : Bool) (f : List (Elem ki)) (n : Int) (m i : Int) : (evP E18 G18 L (lp18 5) (st18 x s d p b f n m i) (rk18 L R 5 N)) = (
    br (decide (i < (↑s.length : Int))) (br (decide (0 ≤ i ∧ i < (↑s.length : Int))) (br (s.getD i.toNat (edflt kc)).snd.snd.snd.snd.snd.snd.snd.snd.snd.snd.snd.snd.snd.snd.snd.snd.snd.snd.snd.snd.snd.snd.snd.snd.snd.snd.snd.snd.snd.snd.fst (N { tm := [vJ, AV.ptr 0 0, vJ, vI (IntKind.i64.wrap (m + 1)), vJ, vJ, vJ, vJ, vJ, vJ, AV.rsl kc s, vI (↑s.length : Int), vI (IntKind.i64.wrap (i + 1)), vJ, vJ, vJ, vJ, vJ, vJ, vJ, vJ, vJ, vJ, vJ, vJ, vJ, vJ, vJ, vJ, vJ, vJ, vJ], ob := [(0, AO.box [vI x, AV.rsl kc s, AV.rsl k3 d, AV.rsl k3 p, vB b, AV.rsl ki f, vI n])], nx := 1000000, ps := [] }) (N { tm := [vJ, AV.ptr 0 0, vJ, vI m, vJ, vJ, vJ, vJ, vJ, vJ, AV.rsl kc s, vI (↑s.length : Int), vI (IntKind.i64.wrap (i + 1)), vJ, vJ, vJ, vJ, vJ, vJ, vJ, vJ, vJ, vJ, vJ, vJ, vJ, vJ, vJ, vJ, vJ, vJ, vJ], ob := [(0, AO.box [vI x, AV.rsl kc s, AV.rsl k3 d, AV.rsl k3 p, vB b, AV.rsl ki f, vI n])], nx := 1000000, ps := [] })) False) (br b (R (some { av := vI (IntKind.i64.wrap (m + IntKind.i64.wrap ((IntKind.i64.wrap (IntKind.i64.wrap ((↑d.length : Int) + 6) - 1)).tdiv 6))), obs := [], outs := [] })) (R (some { av := vI m, obs := [], outs := [] })))) := by kernel_rfl
theorem h18 : G1Ok Tryd.prog 18 g17 := by
  intro args obs k h
  unfold g17 at h
  split at h
  · rename_i k us
    split at h
    rotate_left
    · exact h.elim
    rename_i c hc
    obtain rfl := coreOf_inv hc
    obtain ⟨x, s, d, p, b, f, n⟩ := c
    obtain ⟨hpp, h⟩ := br_and h
    unfold smB' at hpp
    rw [Bool.and_eq_true] at hpp
    obtain ⟨hp, hcs⟩ := hpp
    have hcs : smCs s = true := hcs
    have hl := smCo_s hp
    have hdl := smCo_d hp
    have hpl := smCo_p hp
    have hfl := smCo_f hp
    refine ⟨_, ctr_fn okf hg18 Tryd.func18 (by kernel_rfl) (by kernel_rfl) (by kernel_rfl) fun C => ?_, h⟩
    show bodyP Ef G18 _ Tryd.f18 [coreAV x s d p b f n] [] _
    rw [e18]
    have hpp : smB' (x, s, d, p, b, f, n) = true := by unfold smB'; rw [hp, Bool.true_and]; exact hcs
    refine br_t hpp (br_not (fun h1 => ?_) (fun h1 => ?_))
    · show _ = _
      rw [needs_f h1]
    have hd' := ddt_len (cok_ddt h1)
    refine loopUp okf18 hg18 (fun i m => st18 x s d p b f n m i) s.length (fun i m => m = ((1 + (s.take i).countP drt : Nat) : Int)) (fun N i m hi hm next => ?_) 1 rfl
    show evP E18 G18 _ (lp18 5) (st18 x s d p b f n m i) (rk18 _ _ 5 _)
    have hc := List.countP_le_length (p := drt) (l := s.take i)
    rw [List.length_take] at hc
    have hw : IntKind.i64.wrap ((IntKind.i64.wrap (IntKind.i64.wrap ((d.length : Int) + 6) - 1)).tdiv 6) = ((d.length + 5) / 6 : Nat) := by
      rw [wrap_id (n := (d.length : Int) + 6) (by omega) (by omega), wrap_id (n := (d.length : Int) + 6 - 1) (by omega) (by omega), Int.tdiv_eq_ediv_of_nonneg (by omega), wrap_id (by omega) (by omega)]
      omega
    rw [b18, hw, Int.toNat_natCast, wrap_id (n := (i : Int) + 1) (by omega) (by omega), wrap_id (n := m + 1) (by omega) (by omega), wrap_id (n := m + _) (by omega) (by omega)]
    refine br_dec (fun h2 => br_yes ⟨by omega, h2⟩ (br_intro (fun h3 => ?_) (fun h3 => ?_))) (fun h2 => br_intro (fun h3 => ?_) (fun h3 => ?_))
    · refine next (by omega) _ ?_
      rw [dc_next s (by omega), if_pos (show drt (atC s i) = true from h3)]
      omega
    · refine next (by omega) _ ?_
      rw [dc_next s (by omega), if_neg (by rw [show drt (atC s i) = false from h3]; exact Bool.false_ne_true)]
      omega
    · show _ = _
      rw [List.take_of_length_le (by omega)] at hm
      rw [needs_t h1]
      show _ = (some ⟨.val (.int .i64 ((ndN s d b : Nat) : Int)), [], []⟩ : Option Res)
      rw [h3, ndN_t]
      exact resI (by omega)
    · show _ = _
      rw [List.take_of_length_le (by omega)] at hm
      rw [needs_t h1]
      show _ = (some ⟨.val (.int .i64 ((ndN s d b : Nat) : Int)), [], []⟩ : Option Res)
      rw [h3, ndN_f]
      exact resI (by omega)
  · exact h.elim
noncomputable def E4 : Env := E0.of Tryd.f4
noncomputable def G4 : Gk := gk [(12, g12), (17, g17), (14, g14), (18, g17), (16, g16)]
noncomputable def lp4 (n : Nat) : Code := (loopOf n (codeOf Tryd.f4)).getD .skip
noncomputable def ct4 (L : Lp) (R : Option Res → Prop) (n : Nat) : Kt := contOf E4 G4 L n (codeOf Tryd.f4) (endK E4 Tryd.f4.results.toList R)
noncomputable def rk4 (L : Lp) (R : Option Res → Prop) (n : Nat) (N : St → Prop) : Kt := rk (jof E4 (lp4 n)) N (ct4 L R n)
noncomputable def rkn4 (L : Lp) (R : Option Res → Prop) (n : Nat) (N : St → Prop) (m : Nat) (N2 : St → Prop) : Kt := rk (jof E4 (lp4 m)) N2 (contOf E4 G4 L m (lp4 n) (rk4 L R n N))
noncomputable def LOOPN4 (L : Lp) (R : Option Res → Prop) (n : Nat) (N : St → Prop) (m : Nat) (st : St) : Prop := L (lp4 m) st (contOf E4 G4 L m (lp4 n) (rk4 L R n N))
noncomputable def LOOP4 (L : Lp) (R : Option Res → Prop) (n : Nat) (st : St) : Prop := L (lp4 n) st (ct4 L R n)
theorem hg4 : HG Tryd.prog G4 := (hg_cons h12 (hg_cons h17 (hg_cons h14 (hg_cons h18 (hg_cons h16 hg_nil)))))
theorem okf4 : Ok Tryd.prog E4 := ok0.of Tryd.f4
theorem e4 (L : Lp) (R : Option Res → Prop) (x : Int) (s : List (Elem kc)) (d p : List (Elem k3)) (b : Bool) (f : List (Elem ki)) (n : Int) : (bodyP E0 G4 L Tryd.f4 [coreAV x s d p b f n] [] R) = (
    br (inCo (x, s, d, p, b, f, n) && true) (br (decide (szR 1048576 (szCo (x, s, d, p, b, f, n)) < 0)) (R (some { av := vB true, obs := [], outs := [] })) (br (smCo (x, s, d, p, b, f, n)) (br (smB' (x, s, d, p, b, f, n)) (br (smCo (x, s, d, p, b, f, n)) (br (smB' (x, s, d, p, b, f, n)) (br (needs (x, s, d, p, b, f, n).fst (x, s, d, p, b, f, n).snd.fst (x, s, d, p, b, f, n).snd.snd.fst (x, s, d, p, b, f, n).snd.snd.snd.fst (x, s, d, p, b, f, n).snd.snd.snd.snd.fst (x, s, d, p, b, f, n).snd.snd.snd.snd.snd.fst (x, s, d, p, b, f, n).snd.snd.snd.snd.snd.snd != needs (x, s, d, p, b, f, n).fst (x, s, d, p, b, f, n).snd.fst (x, s, d, p, b, f, n).snd.snd.fst (x, s, d, p, b, f, n).snd.snd.snd.fst (x, s, d, p, b, f, n).snd.snd.snd.snd.fst (x, s, d, p, b, f, n).snd.snd.snd.snd.snd.fst (x, s, d, p, b, f, n).snd.snd.snd.snd.snd.snd) (R (some { av := vB false, obs := [], outs := [] })) (br (smCo (x, s, d, p, b, f, n)) (br (smCo (x, s, d, p, b, f, n)) (br (!eqCo (x, s, d, p, b, f, n) (x, s, d, p, b, f, n)) (R (some { av := vB false, obs := [], outs := [] })) (R (some { av := vB true, obs := [], outs := [] }))) False) False)) False) False) False) False)) False) := by kernel_rfl
theorem c4 (x : Int) (s : List (Elem kc)) (d p : List (Elem k3)) (b : Bool) (f : List (Elem ki)) (n : Int) (h : coOk x s d p b f n) : Ctr Tryd.prog 4 [coreAV x s d p b f n] [] ⟨.val (.bool true), [], []⟩ := by
  refine ctr_fn ok0 hg4 Tryd.func4 (by kernel_rfl) (by kernel_rfl) (by kernel_rfl) fun C => ?_
  rw [e4, inCo_of h]
  refine br_t rfl (br_dec (fun _ => rfl) (fun h1 => ?_))
  have hs := smCo_of (Int.le_refl _) h1
  have hb := smB'_of (Int.le_refl _) h1
  rw [hs, hb, eqCo_self]
  refine br_t rfl (br_t rfl (br_t rfl (br_t rfl (br_bne (fun h => ?_) (fun _ => br_t rfl (br_t rfl rfl))))))
  simp at h
end Go.Proofs.YtljilcingbohkabDoor.Ev
