/- What is free: contracts. -/
import Derived.Test.YtkjnijddbiconaaGreatDoorC9
namespace Go.Proofs.YtkjnijddbiconaaGreatDoor.Ev
open Go
set_option linter.unusedVariables false
set_option linter.unusedSimpArgs false
set_option maxRecDepth 100000
set_option maxHeartbeats 1000000
def hasF (f : List (Elem ki)) (t : Int) : Bool := anyB f.length fun i => atI f i == t
def g73 : G1
  | [.rsl [.int .i64] f, .val (.int .i64 t)], [], k => br (decide (f.length ≤ 1048576)) (k ⟨.val (.bool (hasF f t)), [], []⟩) False
  | _, _, _ => False
def frB (d : List (Elem k3)) (f : List (Elem ki)) (t : Int) : Bool := !okD d t && !hasF f t
def frP (d : List (Elem k3)) (f : List (Elem ki)) (m : Nat) : List (Elem ki) := ((List.range m).map fun (q : Nat) => (((13 + (q : Int)), ()) : Elem ki)).filter fun e => frB d f e.1
def frL (d : List (Elem k3)) (f : List (Elem ki)) (n : Int) : List (Elem ki) := frP d f (n - 13).toNat
def g74 : G1
  | [.agg us, .val (.int .i64 n)], [], k => match coreOf us with
    | some c => br (smCo c && decide (n ≤ 120)) (k ⟨.ows 0, [.row [.int .i64] (frL c.2.2.1 c.2.2.2.2.2.1 n)], []⟩) False
    | none => False
  | _, _, _ => False
def mayB (d : List (Elem k3)) (f : List (Elem ki)) (n : Int) : Bool := decide ((frL d f n).length > 16) && (decide (n - 13 - d.length - 1 ≥ 32) && decide (d.length < 48))
def g69 : G1
  | [.agg us, .val (.int .i64 n)], [], k => match coreOf us with
    | some c => br (smCo c && decide (n ≤ 120)) (k ⟨.val (.bool (mayB c.2.2.1 c.2.2.2.2.2.1 n)), [], []⟩) False
    | none => False
  | _, _, _ => False
def bsI (f : List (Elem ki)) (t : Int) : Nat := bsf (fun i => decide (atI f i < t)) 0 f.length
def bkI (f : List (Elem ki)) (t : Int) : Bool := decide (bsI f t < f.length) && (atI f (bsI f t) == t)
def g145 : G1
  | [.rsl [.int .i64] f, .val (.int .i64 t)], [], k => br (decide (f.length ≤ 1048576)) (k ⟨.tup [.val (.int .i64 (bsI f t)), .val (.bool (bkI f t))], [], []⟩) False
  | _, _, _ => False
def g206 : G1
  | [.val (.int .i64 a), .val (.int .i64 b)], [], k => k ⟨.val (.bool (decide (a < b))), [], []⟩
  | _, _, _ => False
def g212 : G1
  | [.val (.int .i64 a)], [], k => k ⟨.val (.bool false), [], []⟩
  | _, _, _ => False
def okC (c : Co) : Bool := smCo c && (ddtOk c.2.2.1 && plcs c.2.2.2.2.2.1)
def g76 : G1
  | [.agg us, .val (.int .i64 t)], [], k => match coreOf us with
    | some c => br (okC c && decide (0 ≤ t ∧ t ≤ 1000000)) (k ⟨.val (.bool (frB c.2.2.1 c.2.2.2.2.2.1 t)), [], []⟩) False
    | none => False
  | _, _, _ => False
def g71 : G1
  | [.agg us, .val (.int .i64 n)], [], k => match coreOf us with
    | some c => br (okC c && decide (n ≤ 120)) (k ⟨.ows 0, [.row [.int .i64] (frL c.2.2.1 c.2.2.2.2.2.1 n)], []⟩) False
    | none => False
  | _, _, _ => False
def romB (c : Co) (n : Int) : Bool := coreOk c.1 c.2.1 c.2.2.1 c.2.2.2.1 c.2.2.2.2.2.1 c.2.2.2.2.2.2 && decide (n ≤ 120)
def g70 : G1
  | [.agg us, .val (.int .i64 n)], [], k => match coreOf us with
    | some c => br (smB' c) (k ⟨.val (.bool (romB c n)), [], []⟩) False
    | none => False
  | _, _, _ => False
def rmM (c : Co) (n : Int) : Bool := romB c n && mayB c.2.2.1 c.2.2.2.2.2.1 n
def g20 : G1
  | [.agg us, .val (.int .i64 n)], [], k => match coreOf us with
    | some c => br (smB' c) (k ⟨.val (.bool (rmM c n)), [], []⟩) False
    | none => False
  | _, _, _ => False
theorem plc_st {f : List (Elem ki)} (h : plcs f = true) {j : Nat} (hj : j + 1 < f.length) : atI f j < atI f (j + 1) := by
  have h1 := allB_at h hj
  unfold plc1 at h1
  simp only [Bool.and_eq_true, Bool.or_eq_true, beq_iff_eq, decide_eq_true_eq, Nat.add_sub_cancel] at h1
  rcases h1.2 with e | e
  · omega
  · exact e
theorem plc_asc {f : List (Elem ki)} (h : plcs f = true) : ∀ (j i : Nat), i < j → j < f.length → atI f i < atI f j
  | 0, i, hi, _ => absurd hi (by omega)
  | j + 1, i, hi, hj => by
    have h2 := plc_st h hj
    by_cases e : i = j
    · rw [e]; exact h2
    · have := plc_asc h j i (by omega) (by omega)
      omega
theorem any_fd {n : Nat} {e : Nat → Bool} : anyB n e = (fd n e).isSome := by
  unfold anyB fd
  cases h : List.find? e (List.range n) with
  | none =>
    rw [List.find?_eq_none] at h
    rw [List.any_eq_false.2 h]
    rfl
  | some i =>
    rw [List.any_eq_true.2 ⟨i, List.mem_of_find?_eq_some h, List.find?_some h⟩]
    rfl
theorem bk_has {f : List (Elem ki)} (h : plcs f = true) (t : Int) : bkI f t = hasF f t := by
  have e1 : bsI f t = ln (fun i => decide (atI f i < t)) f.length := bsf_ln fun a c hac hc hp => by
    have hp : atI f c < t := of_decide_eq_true hp
    by_cases e : a = c
    · subst e; exact decide_eq_true hp
    · have := plc_asc h c a (by omega) hc
      exact decide_eq_true (by omega)
  have e2 := fd_ln (p := fun i => decide (atI f i < t)) (e := fun i => atI f i == t) (n := f.length) (fun i hi hp => beq_eq_false_iff_ne.2 (by
    have hp : atI f i < t := of_decide_eq_true hp
    omega)) (fun i j hij hj he => decide_eq_true (by
    have he : atI f j = t := eq_of_beq he
    have := plc_asc h j i hij hj
    omega))
  unfold bkI hasF
  rw [e1, any_fd, e2]
  cases decide (ln (fun i => decide (atI f i < t)) f.length < f.length) && (atI f (ln (fun i => decide (atI f i < t)) f.length) == t) <;> rfl
theorem frP_next (d : List (Elem k3)) (f : List (Elem ki)) (m : Nat) : frP d f (m + 1) = frP d f m ++ match frB d f (13 + (m : Int)) with | true => [((13 + (m : Int)), ())] | false => [] := by
  unfold frP
  rw [List.range_succ, List.map_append, List.filter_append]
  have e : List.filter (fun e : Elem ki => frB d f e.1) [((13 + (m : Int)), ())] = match frB d f (13 + (m : Int)) with | true => [((13 + (m : Int)), ())] | false => [] := by
    rw [List.filter_cons]
    show (if frB d f (13 + (m : Int)) = true then _ else _) = _
    cases frB d f (13 + (m : Int)) <;> rfl
  exact congrArg _ e
theorem frP_len (d : List (Elem k3)) (f : List (Elem ki)) (m : Nat) : (frP d f m).length ≤ m := by
  unfold frP
  have := List.length_filter_le (fun e : Elem ki => frB d f e.1) ((List.range m).map fun (q : Nat) => (((13 + (q : Int)), ()) : Elem ki))
  rw [List.length_map, List.length_range] at this
  exact this
theorem fr_o {d : List (Elem k3)} {f : List (Elem ki)} {t : Int} (h : okD d t = true) : frB d f t = false := by unfold frB; rw [h]; rfl
theorem fr_h {d : List (Elem k3)} {f : List (Elem ki)} {t : Int} (h : hasF f t = true) : frB d f t = false := by unfold frB; rw [h]; simp
theorem fr_t {d : List (Elem k3)} {f : List (Elem ki)} {t : Int} (h : okD d t = false) (h2 : hasF f t = false) : frB d f t = true := by unfold frB; rw [h, h2]; rfl
noncomputable def E73 : Env := Ef.of Tryz.f73
noncomputable def G73 : Gk := gk []
noncomputable def lp73 (n : Nat) : Code := (loopOf n (codeOf Tryz.f73)).getD .skip
noncomputable def ct73 (L : Lp) (R : Option Res → Prop) (n : Nat) : Kt := contOf E73 G73 L n (codeOf Tryz.f73) (endK E73 Tryz.f73.results.toList R)
noncomputable def rk73 (L : Lp) (R : Option Res → Prop) (n : Nat) (N : St → Prop) : Kt := rk (jof E73 (lp73 n)) N (ct73 L R n)
noncomputable def rkn73 (L : Lp) (R : Option Res → Prop) (n : Nat) (N : St → Prop) (m : Nat) (N2 : St → Prop) : Kt := rk (jof E73 (lp73 m)) N2 (contOf E73 G73 L m (lp73 n) (rk73 L R n N))
noncomputable def LOOPN73 (L : Lp) (R : Option Res → Prop) (n : Nat) (N : St → Prop) (m : Nat) (st : St) : Prop := L (lp73 m) st (contOf E73 G73 L m (lp73 n) (rk73 L R n N))
noncomputable def LOOP73 (L : Lp) (R : Option Res → Prop) (n : Nat) (st : St) : Prop := L (lp73 n) st (ct73 L R n)
theorem hg73 : HG Tryz.prog G73 := hg_nil
theorem okf73 : Ok Tryz.prog E73 := okf.of Tryz.f73
theorem e73 (L : Lp) (R : Option Res → Prop) (f : List (Elem ki)) (t : Int) : (bodyP Ef G73 L Tryz.f73 [.rsl ki f, .val (.int .i64 t)] [] R) = (
    LOOP73 L R 2 { tm := [AV.rsl ki f, vI t, vJ, vJ, vJ, vI 0, vJ, vJ, vJ, vJ, vJ, vJ, vJ, vJ, vJ, vJ, vJ, vJ], ob := [], nx := 1000000, ps := [] }) := by kernel_rfl
def st73 (f : List (Elem ki)) (t i : Int) : St :=  ⟨[AV.rsl ki f, vI t, vJ, vJ, vJ, .val (.int .i64 i), vJ, vJ, vJ, vJ, vJ, vJ, vJ, vJ, vJ, vJ, vJ, vJ], [], 1000000, []⟩
theorem b73 (L : Lp) (R : Option Res → Prop) (N : St → Prop) (f : List (Elem ki)) (t i : Int) : (evP E73 G73 L (lp73 2) (st73 f t i) (rk73 L R 2 N)) = (
    br (decide (i < (↑f.length : Int))) (br (decide (0 ≤ i ∧ i < (↑f.length : Int))) (br ((f.getD i.toNat (edflt ki)).fst == t) (R (some { av := vB true, obs := [], outs := [] })) (N { tm := [AV.rsl ki f, vI t, vJ, vJ, vJ, vI (IntKind.i64.wrap (i + 1)), vJ, vJ, vJ, vJ, vJ, vJ, vJ, vJ, vJ, vJ, vJ, vJ], ob := [], nx := 1000000, ps := [] })) False) (R (some { av := vB false, obs := [], outs := [] }))) := by kernel_rfl
theorem h73 : G1Ok Tryz.prog 73 g73 := by
  intro args obs k h
  unfold g73 at h
  split at h
  · rename_i k f t
    obtain ⟨hl, h⟩ := brd h
    refine ⟨_, ctr_fn okf hg73 Tryz.func73 (by kernel_rfl) (by kernel_rfl) (by kernel_rfl) fun C => ?_, h⟩
    rw [e73]
    refine loopUp okf73 hg73 (fun i (_ : Unit) => st73 f t i) f.length (fun i _ => ∀ q, q < i → (atI f q == t) = false) (fun N i _ hi hall next => ?_) () (fun q hq => by omega)
    show evP E73 G73 _ (lp73 2) (st73 f t i) (rk73 _ _ 2 _)
    rw [b73, wrap_id (n := (i : Int) + 1) (by omega) (by omega), Int.toNat_natCast]
    refine br_dec (fun h2 => br_yes ⟨by omega, h2⟩ (br_intro (fun h3 => ?_) (fun h3 => next (by omega) () fun q hq => ?_))) (fun h2 => ?_)
    · show _ = _
      rw [show hasF f t = true from anyB_t (i := i) (by omega) h3]
    · by_cases e : q < i
      · exact hall q e
      · have : q = i := by omega
        rw [this]
        exact h3
    · show _ = _
      rw [show hasF f t = false from anyB_f fun q hq => hall q (by omega)]
  · exact h.elim
noncomputable def E74 : Env := Ef.of Tryz.f74
noncomputable def G74 : Gk := gk [(72, g72), (73, g73)]
noncomputable def lp74 (n : Nat) : Code := (loopOf n (codeOf Tryz.f74)).getD .skip
noncomputable def ct74 (L : Lp) (R : Option Res → Prop) (n : Nat) : Kt := contOf E74 G74 L n (codeOf Tryz.f74) (endK E74 Tryz.f74.results.toList R)
noncomputable def rk74 (L : Lp) (R : Option Res → Prop) (n : Nat) (N : St → Prop) : Kt := rk (jof E74 (lp74 n)) N (ct74 L R n)
noncomputable def rkn74 (L : Lp) (R : Option Res → Prop) (n : Nat) (N : St → Prop) (m : Nat) (N2 : St → Prop) : Kt := rk (jof E74 (lp74 m)) N2 (contOf E74 G74 L m (lp74 n) (rk74 L R n N))
noncomputable def LOOPN74 (L : Lp) (R : Option Res → Prop) (n : Nat) (N : St → Prop) (m : Nat) (st : St) : Prop := L (lp74 m) st (contOf E74 G74 L m (lp74 n) (rk74 L R n N))
noncomputable def LOOP74 (L : Lp) (R : Option Res → Prop) (n : Nat) (st : St) : Prop := L (lp74 n) st (ct74 L R n)
theorem hg74 : HG Tryz.prog G74 := (hg_cons h72 (hg_cons h73 hg_nil))
theorem okf74 : Ok Tryz.prog E74 := okf.of Tryz.f74
theorem e74 (L : Lp) (R : Option Res → Prop) (x : Int) (s : List (Elem kc)) (d p : List (Elem k3)) (b : Bool) (f : List (Elem ki)) (n m : Int) : (bodyP Ef G74 L Tryz.f74 [coreAV x s d p b f n, .val (.int .i64 m)] [] R) = (
    LOOP74 L R 3 { tm := [vJ, vI m, AV.ptr 0 0, vJ, vJ, AV.ows 1, vI 13, vJ, vJ, vJ, vJ, vJ, vJ, vJ, vJ, vJ, vJ, vJ, vJ, vJ, vJ, vJ, vJ, vJ, vJ, vJ, vJ, vJ, vJ, vJ, vJ, vJ, vJ, vJ, vJ, vJ], ob := [(0, AO.box [vI x, AV.rsl kc s, AV.rsl k3 d, AV.rsl k3 p, vB b, AV.rsl ki f, vI n]), (1, AO.row ki [])], nx := 1000000, ps := [] }) := by kernel_rfl
def st74 (x : Int) (s : List (Elem kc)) (d p : List (Elem k3)) (b : Bool) (f : List (Elem ki)) (n m : Int) (i : Int) (ys : List (Elem ki)) : St :=  ⟨[vJ, vI m, AV.ptr 0 0, vJ, vJ, AV.ows 1, .val (.int .i64 i), vJ, vJ, vJ, vJ, vJ, vJ, vJ, vJ, vJ, vJ, vJ, vJ, vJ, vJ, vJ, vJ, vJ, vJ, vJ, vJ, vJ, vJ, vJ, vJ, vJ, vJ, vJ, vJ, vJ], [(0, AO.box [vI x, AV.rsl kc s, AV.rsl k3 d, AV.rsl k3 p, vB b, AV.rsl ki f, vI n]), (1, .row ki ys)], 1000000, []⟩
theorem b74 (L : Lp) (R : Option Res → Prop) (N : St → Prop) (x : Int) (s : List (Elem kc)) (d p : List (Elem k3)) (b : Bool) (f : List (Elem ki)) (n m : Int) (i : Int) (ys : List (Elem ki)) : (evP E74 G74 L (lp74 3) (st74 x s d p b f n m i ys) (rk74 L R 3 N)) = (
    br (decide (i < m)) (br (decide (d.length ≤ 1048576)) (br (!okD d i) (br (decide (f.length ≤ 1048576)) (br (!hasF f i) (br (decide ((ys.length + [(i, ())].length) * 8 ≤ 140737488355328)) (N { tm := [vJ, vI m, AV.ptr 0 0, vJ, vJ, AV.ows 1, vI (IntKind.i64.wrap (i + 1)), vJ, vJ, vJ, vJ, vJ, vJ, vJ, vJ, vJ, vJ, vJ, vJ, vJ, vJ, vJ, vJ, vJ, vJ, vJ, vJ, vJ, vJ, vJ, vJ, vJ, vJ, vJ, vJ, vJ], ob := [(0, AO.box [vI x, AV.rsl kc s, AV.rsl k3 d, AV.rsl k3 p, vB b, AV.rsl ki f, vI n]), (1, AO.row ki (ys ++ [(i, ())]))], nx := 1000000, ps := [] }) False) (N { tm := [vJ, vI m, AV.ptr 0 0, vJ, vJ, AV.ows 1, vI (IntKind.i64.wrap (i + 1)), vJ, vJ, vJ, vJ, vJ, vJ, vJ, vJ, vJ, vJ, vJ, vJ, vJ, vJ, vJ, vJ, vJ, vJ, vJ, vJ, vJ, vJ, vJ, vJ, vJ, vJ, vJ, vJ, vJ], ob := [(0, AO.box [vI x, AV.rsl kc s, AV.rsl k3 d, AV.rsl k3 p, vB b, AV.rsl ki f, vI n]), (1, AO.row ki ys)], nx := 1000000, ps := [] })) False) (N { tm := [vJ, vI m, AV.ptr 0 0, vJ, vJ, AV.ows 1, vI (IntKind.i64.wrap (i + 1)), vJ, vJ, vJ, vJ, vJ, vJ, vJ, vJ, vJ, vJ, vJ, vJ, vJ, vJ, vJ, vJ, vJ, vJ, vJ, vJ, vJ, vJ, vJ, vJ, vJ, vJ, vJ, vJ, vJ], ob := [(0, AO.box [vI x, AV.rsl kc s, AV.rsl k3 d, AV.rsl k3 p, vB b, AV.rsl ki f, vI n]), (1, AO.row ki ys)], nx := 1000000, ps := [] })) False) (R (some { av := AV.ows 0, obs := [AO.row ki ys], outs := [] }))) := by kernel_rfl
theorem h74 : G1Ok Tryz.prog 74 g74 := by
  intro args obs k h
  unfold g74 at h
  split at h
  · rename_i k us m
    split at h
    rotate_left
    · exact h.elim
    rename_i c hc
    obtain rfl := coreOf_inv hc
    obtain ⟨x, s, d, p, b, f, n⟩ := c
    obtain ⟨hp, hm, h⟩ := brb2 h
    have hm : m ≤ 120 := of_decide_eq_true hm
    have hdl := smCo_d hp
    have hfl := smCo_f hp
    refine ⟨_, ctr_fn okf hg74 Tryz.func74 (by kernel_rfl) (by kernel_rfl) (by kernel_rfl) fun C => ?_, h⟩
    show bodyP Ef G74 _ Tryz.f74 [coreAV x s d p b f n, .val (.int .i64 m)] [] _
    rw [e74]
    refine loopUp okf74 hg74 (fun i ys => st74 x s d p b f n m (13 + i) ys) (m - 13).toNat (fun i ys => ys = frP d f i) (fun N i ys hi hy next => ?_) [] rfl
    show evP E74 G74 _ (lp74 3) (st74 x s d p b f n m (13 + (i : Int)) ys) (rk74 _ _ 3 _)
    have hlen := frP_len d f i
    rw [← hy] at hlen
    have hn := frP_next d f i
    rw [b74, wrap_id (n := 13 + (i : Int) + 1) (by omega) (by omega), show (13 : Int) + (i : Int) + 1 = 13 + ((i : Int) + 1) from by omega]
    have go : ∀ zs, frP d f (i + 1) = zs → i < (m - 13).toNat → N (st74 x s d p b f n m (13 + ((i : Int) + 1)) zs) := fun zs hz hi => next hi zs hz.symm
    refine br_dec (fun h1 => br_yes hdl (br_not (fun h2 => br_yes hfl (br_not (fun h3 => br_yes ?_ (go _ ?_ (by omega))) (fun h3 => go _ ?_ (by omega)))) (fun h2 => go _ ?_ (by omega)))) (fun h1 => ?_)
    · show (ys.length + 1) * 8 ≤ _
      omega
    · rw [hn, fr_t h2 h3, hy]
    · rw [hn, fr_h h3, hy]
      exact List.append_nil _
    · rw [hn, fr_o h2, hy]
      exact List.append_nil _
    · have : i = (m - 13).toNat := by omega
      rw [this] at hy
      show _ = _
      rw [hy]
      rfl
  · exact h.elim
noncomputable def E69 : Env := Ef.of Tryz.f69
noncomputable def G69 : Gk := gk [(74, g74)]
noncomputable def lp69 (n : Nat) : Code := (loopOf n (codeOf Tryz.f69)).getD .skip
noncomputable def ct69 (L : Lp) (R : Option Res → Prop) (n : Nat) : Kt := contOf E69 G69 L n (codeOf Tryz.f69) (endK E69 Tryz.f69.results.toList R)
noncomputable def rk69 (L : Lp) (R : Option Res → Prop) (n : Nat) (N : St → Prop) : Kt := rk (jof E69 (lp69 n)) N (ct69 L R n)
noncomputable def rkn69 (L : Lp) (R : Option Res → Prop) (n : Nat) (N : St → Prop) (m : Nat) (N2 : St → Prop) : Kt := rk (jof E69 (lp69 m)) N2 (contOf E69 G69 L m (lp69 n) (rk69 L R n N))
noncomputable def LOOPN69 (L : Lp) (R : Option Res → Prop) (n : Nat) (N : St → Prop) (m : Nat) (st : St) : Prop := L (lp69 m) st (contOf E69 G69 L m (lp69 n) (rk69 L R n N))
noncomputable def LOOP69 (L : Lp) (R : Option Res → Prop) (n : Nat) (st : St) : Prop := L (lp69 n) st (ct69 L R n)
theorem hg69 : HG Tryz.prog G69 := (hg_cons h74 hg_nil)
theorem okf69 : Ok Tryz.prog E69 := okf.of Tryz.f69
theorem e69 (L : Lp) (R : Option Res → Prop) (x : Int) (s : List (Elem kc)) (d p : List (Elem k3)) (b : Bool) (f : List (Elem ki)) (n m : Int) : (bodyP Ef G69 L Tryz.f69 [coreAV x s d p b f n, .val (.int .i64 m)] [] R) = (
    br (smCo (x, s, d, p, b, f, n) && decide (m ≤ 120)) (br (decide ((↑(frL (x, s, d, p, b, f, n).snd.snd.fst (x, s, d, p, b, f, n).snd.snd.snd.snd.snd.fst m).length : Int) > 16)) (br (decide (IntKind.i64.wrap (IntKind.i64.wrap (IntKind.i64.wrap (m - 13) - (↑d.length : Int)) - 1) ≥ 32)) (R (some { av := vB (decide ((↑d.length : Int) < 48)), obs := [], outs := [] })) (R (some { av := vB false, obs := [], outs := [] }))) (R (some { av := vB false, obs := [], outs := [] }))) False) := by kernel_rfl
theorem h69 : G1Ok Tryz.prog 69 g69 := by
  intro args obs k h
  unfold g69 at h
  split at h
  · rename_i k us m
    split at h
    rotate_left
    · exact h.elim
    rename_i c hc
    obtain rfl := coreOf_inv hc
    obtain ⟨x, s, d, p, b, f, n⟩ := c
    obtain ⟨hp, hm, h⟩ := brb2 h
    have hm' : m ≤ 120 := of_decide_eq_true hm
    have hdl := smCo_d hp
    refine ⟨_, ctr_fn okf hg69 Tryz.func69 (by kernel_rfl) (by kernel_rfl) (by kernel_rfl) fun C => ?_, h⟩
    show bodyP Ef G69 _ Tryz.f69 [coreAV x s d p b f n, .val (.int .i64 m)] [] _
    rw [e69]
    have hl : (frL d f m).length ≤ (m - 13).toNat := frP_len d f _
    refine br_t (by rw [hp, hm]; rfl) (br_dec (fun h1 => ?_) (fun h1 => ?_))
    · have h1 : ((frL d f m).length : Int) > 16 := h1
      rw [wrap_id (n := m - 13) (by omega) (by omega), wrap_id (n := m - 13 - d.length) (by omega) (by omega), wrap_id (n := m - 13 - d.length - 1) (by omega) (by omega)]
      refine br_dec (fun h2 => ?_) (fun h2 => ?_)
      · show (some ⟨.val (.bool (decide ((d.length : Int) < 48))), [], []⟩ : Option Res) = some ⟨.val (.bool (mayB d f m)), [], []⟩
        unfold mayB
        rw [decide_eq_true (show (frL d f m).length > 16 by omega), decide_eq_true h2, Bool.true_and, Bool.true_and, show decide ((d.length : Int) < 48) = decide (d.length < 48) from decide_eq_decide.2 (by omega)]
      · show (some ⟨.val (.bool false), [], []⟩ : Option Res) = some ⟨.val (.bool (mayB d f m)), [], []⟩
        unfold mayB
        rw [decide_eq_false h2, Bool.false_and, Bool.and_false]
    · have h1 : ¬ ((frL d f m).length : Int) > 16 := h1
      show (some ⟨.val (.bool false), [], []⟩ : Option Res) = some ⟨.val (.bool (mayB d f m)), [], []⟩
      unfold mayB
      rw [decide_eq_false (show ¬ (frL d f m).length > 16 by omega), Bool.false_and]
  · exact h.elim
noncomputable def E212 : Env := Ef.of Tryz.f212
noncomputable def G212 : Gk := gk []
noncomputable def lp212 (n : Nat) : Code := (loopOf n (codeOf Tryz.f212)).getD .skip
noncomputable def ct212 (L : Lp) (R : Option Res → Prop) (n : Nat) : Kt := contOf E212 G212 L n (codeOf Tryz.f212) (endK E212 Tryz.f212.results.toList R)
noncomputable def rk212 (L : Lp) (R : Option Res → Prop) (n : Nat) (N : St → Prop) : Kt := rk (jof E212 (lp212 n)) N (ct212 L R n)
noncomputable def rkn212 (L : Lp) (R : Option Res → Prop) (n : Nat) (N : St → Prop) (m : Nat) (N2 : St → Prop) : Kt := rk (jof E212 (lp212 m)) N2 (contOf E212 G212 L m (lp212 n) (rk212 L R n N))
noncomputable def LOOPN212 (L : Lp) (R : Option Res → Prop) (n : Nat) (N : St → Prop) (m : Nat) (st : St) : Prop := L (lp212 m) st (contOf E212 G212 L m (lp212 n) (rk212 L R n N))
noncomputable def LOOP212 (L : Lp) (R : Option Res → Prop) (n : Nat) (st : St) : Prop := L (lp212 n) st (ct212 L R n)
theorem hg212 : HG Tryz.prog G212 := hg_nil
theorem okf212 : Ok Tryz.prog E212 := okf.of Tryz.f212
theorem e212 (L : Lp) (R : Option Res → Prop) (a : Int) : (bodyP Ef G212 L Tryz.f212 [.val (.int .i64 a)] [] R) = (
    R (some { av := vB (a != a), obs := [], outs := [] })) := by kernel_rfl
theorem h212 : G1Ok Tryz.prog 212 g212 := by
  intro args obs k h
  unfold g212 at h
  split at h
  · rename_i k a
    refine ⟨_, ctr_fn okf hg212 Tryz.func212 (by kernel_rfl) (by kernel_rfl) (by kernel_rfl) fun C => ?_, h⟩
    rw [e212]
    show _ = _
    simp
  · exact h.elim
noncomputable def E246 : Env := Ef.of Tryz.f246
noncomputable def G246 : Gk := gk []
noncomputable def lp246 (n : Nat) : Code := (loopOf n (codeOf Tryz.f246)).getD .skip
noncomputable def ct246 (L : Lp) (R : Option Res → Prop) (n : Nat) : Kt := contOf E246 G246 L n (codeOf Tryz.f246) (endK E246 Tryz.f246.results.toList R)
noncomputable def rk246 (L : Lp) (R : Option Res → Prop) (n : Nat) (N : St → Prop) : Kt := rk (jof E246 (lp246 n)) N (ct246 L R n)
noncomputable def rkn246 (L : Lp) (R : Option Res → Prop) (n : Nat) (N : St → Prop) (m : Nat) (N2 : St → Prop) : Kt := rk (jof E246 (lp246 m)) N2 (contOf E246 G246 L m (lp246 n) (rk246 L R n N))
noncomputable def LOOPN246 (L : Lp) (R : Option Res → Prop) (n : Nat) (N : St → Prop) (m : Nat) (st : St) : Prop := L (lp246 m) st (contOf E246 G246 L m (lp246 n) (rk246 L R n N))
noncomputable def LOOP246 (L : Lp) (R : Option Res → Prop) (n : Nat) (st : St) : Prop := L (lp246 n) st (ct246 L R n)
theorem hg246 : HG Tryz.prog G246 := hg_nil
theorem okf246 : Ok Tryz.prog E246 := okf.of Tryz.f246
theorem e246 (L : Lp) (R : Option Res → Prop) (a : Int) : (bodyP Ef G246 L Tryz.f246 [.val (.int .i64 a)] [] R) = (
    R (some { av := vB (a != a), obs := [], outs := [] })) := by kernel_rfl
theorem h246 : G1Ok Tryz.prog 246 g212 := by
  intro args obs k h
  unfold g212 at h
  split at h
  · rename_i k a
    refine ⟨_, ctr_fn okf hg246 Tryz.func246 (by kernel_rfl) (by kernel_rfl) (by kernel_rfl) fun C => ?_, h⟩
    rw [e246]
    show _ = _
    simp
  · exact h.elim
noncomputable def E206 : Env := Ef.of Tryz.f206
noncomputable def G206 : Gk := gk [(246, g212)]
noncomputable def lp206 (n : Nat) : Code := (loopOf n (codeOf Tryz.f206)).getD .skip
noncomputable def ct206 (L : Lp) (R : Option Res → Prop) (n : Nat) : Kt := contOf E206 G206 L n (codeOf Tryz.f206) (endK E206 Tryz.f206.results.toList R)
noncomputable def rk206 (L : Lp) (R : Option Res → Prop) (n : Nat) (N : St → Prop) : Kt := rk (jof E206 (lp206 n)) N (ct206 L R n)
noncomputable def rkn206 (L : Lp) (R : Option Res → Prop) (n : Nat) (N : St → Prop) (m : Nat) (N2 : St → Prop) : Kt := rk (jof E206 (lp206 m)) N2 (contOf E206 G206 L m (lp206 n) (rk206 L R n N))
noncomputable def LOOPN206 (L : Lp) (R : Option Res → Prop) (n : Nat) (N : St → Prop) (m : Nat) (st : St) : Prop := L (lp206 m) st (contOf E206 G206 L m (lp206 n) (rk206 L R n N))
noncomputable def LOOP206 (L : Lp) (R : Option Res → Prop) (n : Nat) (st : St) : Prop := L (lp206 n) st (ct206 L R n)
theorem hg206 : HG Tryz.prog G206 := (hg_cons h246 hg_nil)
theorem okf206 : Ok Tryz.prog E206 := okf.of Tryz.f206
theorem e206 (L : Lp) (R : Option Res → Prop) (a c : Int) : (bodyP Ef G206 L Tryz.f206 [.val (.int .i64 a), .val (.int .i64 c)] [] R) = (
    R (some { av := vB (decide (a < c)), obs := [], outs := [] })) := by kernel_rfl
theorem h206 : G1Ok Tryz.prog 206 g206 := by
  intro args obs k h
  unfold g206 at h
  split at h
  · rename_i k a c
    refine ⟨_, ctr_fn okf hg206 Tryz.func206 (by kernel_rfl) (by kernel_rfl) (by kernel_rfl) fun C => ?_, h⟩
    rw [e206]
  · exact h.elim
noncomputable def E145 : Env := Ef.of Tryz.f145
noncomputable def G145 : Gk := gk [(206, g206), (212, g212)]
noncomputable def lp145 (n : Nat) : Code := (loopOf n (codeOf Tryz.f145)).getD .skip
noncomputable def ct145 (L : Lp) (R : Option Res → Prop) (n : Nat) : Kt := contOf E145 G145 L n (codeOf Tryz.f145) (endK E145 Tryz.f145.results.toList R)
noncomputable def rk145 (L : Lp) (R : Option Res → Prop) (n : Nat) (N : St → Prop) : Kt := rk (jof E145 (lp145 n)) N (ct145 L R n)
noncomputable def rkn145 (L : Lp) (R : Option Res → Prop) (n : Nat) (N : St → Prop) (m : Nat) (N2 : St → Prop) : Kt := rk (jof E145 (lp145 m)) N2 (contOf E145 G145 L m (lp145 n) (rk145 L R n N))
noncomputable def LOOPN145 (L : Lp) (R : Option Res → Prop) (n : Nat) (N : St → Prop) (m : Nat) (st : St) : Prop := L (lp145 m) st (contOf E145 G145 L m (lp145 n) (rk145 L R n N))
noncomputable def LOOP145 (L : Lp) (R : Option Res → Prop) (n : Nat) (st : St) : Prop := L (lp145 n) st (ct145 L R n)
theorem hg145 : HG Tryz.prog G145 := (hg_cons h206 (hg_cons h212 hg_nil))
theorem okf145 : Ok Tryz.prog E145 := okf.of Tryz.f145
theorem e145 (L : Lp) (R : Option Res → Prop) (f : List (Elem ki)) (t : Int) : (bodyP Ef G145 L Tryz.f145 [.rsl ki f, .val (.int .i64 t)] [] R) = (
    LOOP145 L R 3 { tm := [AV.rsl ki f, vI t, vJ, vJ, vJ, vJ, vI (↑f.length : Int), vI 0, vI (↑f.length : Int), vJ, vJ, vJ, vJ, vJ, vJ, vJ, vJ, vJ, vJ, vJ, vJ, vJ, vJ, vJ, vJ, vJ, vJ, vJ, vJ, vJ, vJ, vJ, vJ, vJ, vJ, vJ, vJ, vJ, vJ, vJ, vJ, vJ, vJ, vJ, vJ, vJ, vJ, vJ, vJ, vJ, vJ, vJ, vJ, vJ], ob := [], nx := 1000000, ps := [] }) := by kernel_rfl
def st145 (f : List (Elem ki)) (t i j : Int) : St :=  ⟨[AV.rsl ki f, vI t, vJ, vJ, vJ, vJ, vI (↑f.length : Int), .val (.int .i64 i), .val (.int .i64 j), vJ, vJ, vJ, vJ, vJ, vJ, vJ, vJ, vJ, vJ, vJ, vJ, vJ, vJ, vJ, vJ, vJ, vJ, vJ, vJ, vJ, vJ, vJ, vJ, vJ, vJ, vJ, vJ, vJ, vJ, vJ, vJ, vJ, vJ, vJ, vJ, vJ, vJ, vJ, vJ, vJ, vJ, vJ, vJ, vJ], [], 1000000, []⟩
theorem b145 (L : Lp) (R : Option Res → Prop) (N : St → Prop) (f : List (Elem ki)) (t i j : Int) : (evP E145 G145 L (lp145 3) (st145 f t i j) (rk145 L R 3 N)) = (
    br (decide (i < j)) (br (decide (0 ≤ IntKind.i64.wrap ((IntKind.u64.wrap (IntKind.i64.wrap (i + j))).fdiv 2) ∧ IntKind.i64.wrap ((IntKind.u64.wrap (IntKind.i64.wrap (i + j))).fdiv 2) < (↑f.length : Int))) (br (decide ((f.getD (IntKind.i64.wrap ((IntKind.u64.wrap (IntKind.i64.wrap (i + j))).fdiv 2)).toNat (edflt ki)).fst < t)) (N { tm := [AV.rsl ki f, vI t, vJ, vJ, vJ, vJ, vI (↑f.length : Int), vI (IntKind.i64.wrap (IntKind.i64.wrap ((IntKind.u64.wrap (IntKind.i64.wrap (i + j))).fdiv 2) + 1)), vI j, vJ, vJ, vJ, vJ, vJ, vJ, vJ, vJ, vJ, vJ, vJ, vJ, vJ, vJ, vJ, vJ, vJ, vJ, vJ, vJ, vJ, vJ, vJ, vJ, vJ, vJ, vJ, vJ, vJ, vJ, vJ, vJ, vJ, vJ, vJ, vJ, vJ, vJ, vJ, vJ, vJ, vJ, vJ, vJ, vJ], ob := [], nx := 1000000, ps := [] }) (N { tm := [AV.rsl ki f, vI t, vJ, vJ, vJ, vJ, vI (↑f.length : Int), vI i, vI (IntKind.i64.wrap ((IntKind.u64.wrap (IntKind.i64.wrap (i + j))).fdiv 2)), vJ, vJ, vJ, vJ, vJ, vJ, vJ, vJ, vJ, vJ, vJ, vJ, vJ, vJ, vJ, vJ, vJ, vJ, vJ, vJ, vJ, vJ, vJ, vJ, vJ, vJ, vJ, vJ, vJ, vJ, vJ, vJ, vJ, vJ, vJ, vJ, vJ, vJ, vJ, vJ, vJ, vJ, vJ, vJ, vJ], ob := [], nx := 1000000, ps := [] })) False) (br (decide (i < (↑f.length : Int))) (br (decide (0 ≤ i ∧ i < (↑f.length : Int))) (br ((f.getD i.toNat (edflt ki)).fst == t) (R (some { av := AV.tup [vI i, vB true], obs := [], outs := [] })) (br (decide (0 ≤ i ∧ i < (↑f.length : Int))) (R (some { av := AV.tup [vI i, vB false], obs := [], outs := [] })) False)) False) (R (some { av := AV.tup [vI i, vB false], obs := [], outs := [] })))) := by kernel_rfl
theorem h145 : G1Ok Tryz.prog 145 g145 := by
  intro args obs k h
  unfold g145 at h
  split at h
  · rename_i k f t
    obtain ⟨hl, h⟩ := brd h
    refine ⟨_, ctr_fn okf hg145 Tryz.func145 (by kernel_rfl) (by kernel_rfl) (by kernel_rfl) fun C => ?_, h⟩
    rw [e145]
    refine loopBs okf145 hg145 (fun i j => st145 f t i j) f.length (fun i => decide (atI f i < t)) (by omega) (fun N i j hij hj hm hw yes no done => ?_) _ rfl
    show evP E145 G145 _ (lp145 3) (st145 f t i j) (rk145 _ _ 3 _)
    rw [b145, hm]
    refine br_dec (fun h2 => ?_) (fun h2 => ?_)
    · rw [hw (by omega), Int.toNat_natCast]
      exact br_yes ⟨by omega, by omega⟩ (br_intro (fun h3 => yes (by omega) h3) (fun h3 => no (by omega) h3))
    · have e : bsI f t = i := done (by omega)
      refine br_dec (fun h3 => br_yes ⟨by omega, h3⟩ (br_intro (fun h4 => ?_) (fun h4 => br_yes ⟨by omega, h3⟩ ?_))) (fun h3 => ?_)
      · show _ = _
        unfold bkI
        rw [e, decide_eq_true (show i < f.length by omega), show (atI f i == t) = true from h4]
        rfl
      · show _ = _
        unfold bkI
        rw [e, show (atI f i == t) = false from h4, Bool.and_false]
      · show _ = _
        unfold bkI
        rw [e, decide_eq_false (show ¬ i < f.length by omega)]
        rfl
  · exact h.elim
noncomputable def E76 : Env := Ef.of Tryz.f76
noncomputable def G76 : Gk := gk [(75, g75), (145, g145)]
noncomputable def lp76 (n : Nat) : Code := (loopOf n (codeOf Tryz.f76)).getD .skip
noncomputable def ct76 (L : Lp) (R : Option Res → Prop) (n : Nat) : Kt := contOf E76 G76 L n (codeOf Tryz.f76) (endK E76 Tryz.f76.results.toList R)
noncomputable def rk76 (L : Lp) (R : Option Res → Prop) (n : Nat) (N : St → Prop) : Kt := rk (jof E76 (lp76 n)) N (ct76 L R n)
noncomputable def rkn76 (L : Lp) (R : Option Res → Prop) (n : Nat) (N : St → Prop) (m : Nat) (N2 : St → Prop) : Kt := rk (jof E76 (lp76 m)) N2 (contOf E76 G76 L m (lp76 n) (rk76 L R n N))
noncomputable def LOOPN76 (L : Lp) (R : Option Res → Prop) (n : Nat) (N : St → Prop) (m : Nat) (st : St) : Prop := L (lp76 m) st (contOf E76 G76 L m (lp76 n) (rk76 L R n N))
noncomputable def LOOP76 (L : Lp) (R : Option Res → Prop) (n : Nat) (st : St) : Prop := L (lp76 n) st (ct76 L R n)
theorem hg76 : HG Tryz.prog G76 := (hg_cons h75 (hg_cons h145 hg_nil))
theorem okf76 : Ok Tryz.prog E76 := okf.of Tryz.f76
theorem e76 (L : Lp) (R : Option Res → Prop) (x : Int) (s : List (Elem kc)) (d p : List (Elem k3)) (b : Bool) (f : List (Elem ki)) (n m : Int) : (bodyP Ef G76 L Tryz.f76 [coreAV x s d p b f n, .val (.int .i64 m)] [] R) = (
    br (decide (d.length ≤ 1048576)) (br (decide (f.length ≤ 1048576)) (br (!bkD d m) (R (some { av := vB !bkI f m, obs := [], outs := [] })) (R (some { av := vB false, obs := [], outs := [] }))) False) False) := by kernel_rfl
theorem h76 : G1Ok Tryz.prog 76 g76 := by
  intro args obs k h
  unfold g76 at h
  split at h
  · rename_i k us m
    split at h
    rotate_left
    · exact h.elim
    rename_i c hc
    obtain rfl := coreOf_inv hc
    obtain ⟨x, s, d, p, b, f, n⟩ := c
    obtain ⟨hp, hm, h⟩ := brb2 h
    have hm : 0 ≤ m ∧ m ≤ 1000000 := of_decide_eq_true hm
    unfold okC at hp
    simp only [Bool.and_eq_true] at hp
    obtain ⟨hp, hd, hf⟩ := hp
    have hd : ddtOk d = true := hd
    have hf : plcs f = true := hf
    refine ⟨_, ctr_fn okf hg76 Tryz.func76 (by kernel_rfl) (by kernel_rfl) (by kernel_rfl) fun C => ?_, h⟩
    show bodyP Ef G76 _ Tryz.f76 [coreAV x s d p b f n, .val (.int .i64 m)] [] _
    rw [e76]
    refine br_yes (smCo_d hp) (br_yes (smCo_f hp) (br_not (fun h1 => ?_) (fun h1 => ?_)))
    · rw [bk_okD hd hm.1 hm.2] at h1
      show (some ⟨.val (.bool (!bkI f m)), [], []⟩ : Option Res) = some ⟨.val (.bool (frB d f m)), [], []⟩
      unfold frB
      rw [bk_has hf, h1]
      rfl
    · rw [bk_okD hd hm.1 hm.2] at h1
      show (some ⟨.val (.bool false), [], []⟩ : Option Res) = some ⟨.val (.bool (frB d f m)), [], []⟩
      rw [fr_o h1]
  · exact h.elim
noncomputable def E71 : Env := Ef.of Tryz.f71
noncomputable def G71 : Gk := gk [(76, g76)]
noncomputable def lp71 (n : Nat) : Code := (loopOf n (codeOf Tryz.f71)).getD .skip
noncomputable def ct71 (L : Lp) (R : Option Res → Prop) (n : Nat) : Kt := contOf E71 G71 L n (codeOf Tryz.f71) (endK E71 Tryz.f71.results.toList R)
noncomputable def rk71 (L : Lp) (R : Option Res → Prop) (n : Nat) (N : St → Prop) : Kt := rk (jof E71 (lp71 n)) N (ct71 L R n)
noncomputable def rkn71 (L : Lp) (R : Option Res → Prop) (n : Nat) (N : St → Prop) (m : Nat) (N2 : St → Prop) : Kt := rk (jof E71 (lp71 m)) N2 (contOf E71 G71 L m (lp71 n) (rk71 L R n N))
noncomputable def LOOPN71 (L : Lp) (R : Option Res → Prop) (n : Nat) (N : St → Prop) (m : Nat) (st : St) : Prop := L (lp71 m) st (contOf E71 G71 L m (lp71 n) (rk71 L R n N))
noncomputable def LOOP71 (L : Lp) (R : Option Res → Prop) (n : Nat) (st : St) : Prop := L (lp71 n) st (ct71 L R n)
theorem hg71 : HG Tryz.prog G71 := (hg_cons h76 hg_nil)
theorem okf71 : Ok Tryz.prog E71 := okf.of Tryz.f71
theorem e71 (L : Lp) (R : Option Res → Prop) (x : Int) (s : List (Elem kc)) (d p : List (Elem k3)) (b : Bool) (f : List (Elem ki)) (n m : Int) : (bodyP Ef G71 L Tryz.f71 [coreAV x s d p b f n, .val (.int .i64 m)] [] R) = (
    LOOP71 L R 3 { tm := [vJ, vI m, AV.ptr 0 0, vJ, vJ, AV.ows 1, vI 13, vJ, vJ, vJ, vJ, vJ, vJ, vJ, vJ, vJ, vJ, vJ, vJ, vJ], ob := [(0, AO.box [vI x, AV.rsl kc s, AV.rsl k3 d, AV.rsl k3 p, vB b, AV.rsl ki f, vI n]), (1, AO.row ki [])], nx := 1000000, ps := [] }) := by kernel_rfl
def st71 (x : Int) (s : List (Elem kc)) (d p : List (Elem k3)) (b : Bool) (f : List (Elem ki)) (n m : Int) (i : Int) (ys : List (Elem ki)) : St :=  ⟨[vJ, vI m, AV.ptr 0 0, vJ, vJ, AV.ows 1, .val (.int .i64 i), vJ, vJ, vJ, vJ, vJ, vJ, vJ, vJ, vJ, vJ, vJ, vJ, vJ], [(0, AO.box [vI x, AV.rsl kc s, AV.rsl k3 d, AV.rsl k3 p, vB b, AV.rsl ki f, vI n]), (1, .row ki ys)], 1000000, []⟩
theorem b71 (L : Lp) (R : Option Res → Prop) (N : St → Prop) (x : Int) (s : List (Elem kc)) (d p : List (Elem k3)) (b : Bool) (f : List (Elem ki)) (n m : Int) (i : Int) (ys : List (Elem ki)) : (evP E71 G71 L (lp71 3) (st71 x s d p b f n m i ys) (rk71 L R 3 N)) = (
    br (decide (i < m)) (br (okC (x, s, d, p, b, f, n) && decide (0 ≤ i ∧ i ≤ 1000000)) (br (frB (x, s, d, p, b, f, n).snd.snd.fst (x, s, d, p, b, f, n).snd.snd.snd.snd.snd.fst i) (br (decide ((ys.length + [(i, ())].length) * 8 ≤ 140737488355328)) (N { tm := [vJ, vI m, AV.ptr 0 0, vJ, vJ, AV.ows 1, vI (IntKind.i64.wrap (i + 1)), vJ, vJ, vJ, vJ, vJ, vJ, vJ, vJ, vJ, vJ, vJ, vJ, vJ], ob := [(0, AO.box [vI x, AV.rsl kc s, AV.rsl k3 d, AV.rsl k3 p, vB b, AV.rsl ki f, vI n]), (1, AO.row ki (ys ++ [(i, ())]))], nx := 1000000, ps := [] }) False) (N { tm := [vJ, vI m, AV.ptr 0 0, vJ, vJ, AV.ows 1, vI (IntKind.i64.wrap (i + 1)), vJ, vJ, vJ, vJ, vJ, vJ, vJ, vJ, vJ, vJ, vJ, vJ, vJ], ob := [(0, AO.box [vI x, AV.rsl kc s, AV.rsl k3 d, AV.rsl k3 p, vB b, AV.rsl ki f, vI n]), (1, AO.row ki ys)], nx := 1000000, ps := [] })) False) (R (some { av := AV.ows 0, obs := [AO.row ki ys], outs := [] }))) := by kernel_rfl
theorem h71 : G1Ok Tryz.prog 71 g71 := by
  intro args obs k h
  unfold g71 at h
  split at h
  · rename_i k us m
    split at h
    rotate_left
    · exact h.elim
    rename_i c hc
    obtain rfl := coreOf_inv hc
    obtain ⟨x, s, d, p, b, f, n⟩ := c
    obtain ⟨hp, hm, h⟩ := brb2 h
    have hm : m ≤ 120 := of_decide_eq_true hm
    refine ⟨_, ctr_fn okf hg71 Tryz.func71 (by kernel_rfl) (by kernel_rfl) (by kernel_rfl) fun C => ?_, h⟩
    show bodyP Ef G71 _ Tryz.f71 [coreAV x s d p b f n, .val (.int .i64 m)] [] _
    rw [e71]
    refine loopUp okf71 hg71 (fun i ys => st71 x s d p b f n m (13 + i) ys) (m - 13).toNat (fun i ys => ys = frP d f i) (fun N i ys hi hy next => ?_) [] rfl
    show evP E71 G71 _ (lp71 3) (st71 x s d p b f n m (13 + (i : Int)) ys) (rk71 _ _ 3 _)
    have hlen := frP_len d f i
    rw [← hy] at hlen
    have hn := frP_next d f i
    rw [b71, wrap_id (n := 13 + (i : Int) + 1) (by omega) (by omega), show (13 : Int) + (i : Int) + 1 = 13 + ((i : Int) + 1) from by omega]
    have go : ∀ zs, frP d f (i + 1) = zs → i < (m - 13).toNat → N (st71 x s d p b f n m (13 + ((i : Int) + 1)) zs) := fun zs hz hi => next hi zs hz.symm
    refine br_dec (fun h1 => br_t (by rw [hp, decide_eq_true (show 0 ≤ 13 + (i : Int) ∧ 13 + (i : Int) ≤ 1000000 by omega)]; rfl) (br_intro (fun h2 => br_yes ?_ (go _ ?_ (by omega))) (fun h2 => go _ ?_ (by omega)))) (fun h1 => ?_)
    · show (ys.length + 1) * 8 ≤ _
      omega
    · rw [hn, show frB d f (13 + (i : Int)) = true from h2, hy]
    · rw [hn, show frB d f (13 + (i : Int)) = false from h2, hy]
      exact List.append_nil _
    · have : i = (m - 13).toNat := by omega
      rw [this] at hy
      show _ = _
      rw [hy]
      rfl
  · exact h.elim
noncomputable def E70 : Env := Ef.of Tryz.f70
noncomputable def G70 : Gk := gk [(58, g39)]
noncomputable def lp70 (n : Nat) : Code := (loopOf n (codeOf Tryz.f70)).getD .skip
noncomputable def ct70 (L : Lp) (R : Option Res → Prop) (n : Nat) : Kt := contOf E70 G70 L n (codeOf Tryz.f70) (endK E70 Tryz.f70.results.toList R)
noncomputable def rk70 (L : Lp) (R : Option Res → Prop) (n : Nat) (N : St → Prop) : Kt := rk (jof E70 (lp70 n)) N (ct70 L R n)
noncomputable def rkn70 (L : Lp) (R : Option Res → Prop) (n : Nat) (N : St → Prop) (m : Nat) (N2 : St → Prop) : Kt := rk (jof E70 (lp70 m)) N2 (contOf E70 G70 L m (lp70 n) (rk70 L R n N))
noncomputable def LOOPN70 (L : Lp) (R : Option Res → Prop) (n : Nat) (N : St → Prop) (m : Nat) (st : St) : Prop := L (lp70 m) st (contOf E70 G70 L m (lp70 n) (rk70 L R n N))
noncomputable def LOOP70 (L : Lp) (R : Option Res → Prop) (n : Nat) (st : St) : Prop := L (lp70 n) st (ct70 L R n)
theorem hg70 : HG Tryz.prog G70 := (hg_cons h58 hg_nil)
theorem okf70 : Ok Tryz.prog E70 := okf.of Tryz.f70
theorem e70 (L : Lp) (R : Option Res → Prop) (x : Int) (s : List (Elem kc)) (d p : List (Elem k3)) (b : Bool) (f : List (Elem ki)) (n m : Int) : (bodyP Ef G70 L Tryz.f70 [coreAV x s d p b f n, .val (.int .i64 m)] [] R) = (
    br (smB' (x, s, d, p, b, f, n)) (br (coreOk (x, s, d, p, b, f, n).fst (x, s, d, p, b, f, n).snd.fst (x, s, d, p, b, f, n).snd.snd.fst (x, s, d, p, b, f, n).snd.snd.snd.fst (x, s, d, p, b, f, n).snd.snd.snd.snd.snd.fst (x, s, d, p, b, f, n).snd.snd.snd.snd.snd.snd) (R (some { av := vB (decide (m ≤ 120)), obs := [], outs := [] })) (R (some { av := vB false, obs := [], outs := [] }))) False) := by kernel_rfl
theorem h70 : G1Ok Tryz.prog 70 g70 := by
  intro args obs k h
  unfold g70 at h
  split at h
  · rename_i k us m
    split at h
    rotate_left
    · exact h.elim
    rename_i c hc
    obtain rfl := coreOf_inv hc
    obtain ⟨x, s, d, p, b, f, n⟩ := c
    obtain ⟨hp, h⟩ := br_and h
    refine ⟨_, ctr_fn okf hg70 Tryz.func70 (by kernel_rfl) (by kernel_rfl) (by kernel_rfl) fun C => ?_, h⟩
    show bodyP Ef G70 _ Tryz.f70 [coreAV x s d p b f n, .val (.int .i64 m)] [] _
    rw [e70]
    refine br_t hp (br_intro (fun h1 => ?_) (fun h1 => ?_))
    · show (some ⟨.val (.bool (decide (m ≤ 120))), [], []⟩ : Option Res) = some ⟨.val (.bool (romB (x, s, d, p, b, f, n) m)), [], []⟩
      unfold romB
      rw [h1, Bool.true_and]
    · show (some ⟨.val (.bool false), [], []⟩ : Option Res) = some ⟨.val (.bool (romB (x, s, d, p, b, f, n) m)), [], []⟩
      unfold romB
      rw [h1, Bool.false_and]
  · exact h.elim
theorem rom_inv {c : Co} {m : Int} (h : romB c m = true) : coreOk c.1 c.2.1 c.2.2.1 c.2.2.2.1 c.2.2.2.2.2.1 c.2.2.2.2.2.2 = true ∧ m ≤ 120 := by
  unfold romB at h
  rw [Bool.and_eq_true, decide_eq_true_eq] at h
  exact h
theorem cok_plc {x : Int} {s : List (Elem kc)} {d p : List (Elem k3)} {f : List (Elem ki)} {n : Int} (h : coreOk x s d p f n = true) : ddtOk d = true ∧ plcs f = true := by
  unfold coreOk at h
  simp only [Bool.and_eq_true] at h
  exact ⟨h.2.1, h.2.2.2.1⟩
theorem rom_ok {c : Co} {m : Int} (h : romB c m = true) (hs : smB' c = true) : okC c = true ∧ m ≤ 120 := by
  obtain ⟨h1, h2⟩ := rom_inv h
  obtain ⟨h3, h4⟩ := cok_plc h1
  unfold smB' at hs
  rw [Bool.and_eq_true] at hs
  unfold okC
  rw [hs.1, h3, h4]
  exact ⟨rfl, h2⟩
noncomputable def E20 : Env := Ef.of Tryz.f20
noncomputable def G20 : Gk := gk [(39, g39), (69, g69)]
noncomputable def lp20 (n : Nat) : Code := (loopOf n (codeOf Tryz.f20)).getD .skip
noncomputable def ct20 (L : Lp) (R : Option Res → Prop) (n : Nat) : Kt := contOf E20 G20 L n (codeOf Tryz.f20) (endK E20 Tryz.f20.results.toList R)
noncomputable def rk20 (L : Lp) (R : Option Res → Prop) (n : Nat) (N : St → Prop) : Kt := rk (jof E20 (lp20 n)) N (ct20 L R n)
noncomputable def rkn20 (L : Lp) (R : Option Res → Prop) (n : Nat) (N : St → Prop) (m : Nat) (N2 : St → Prop) : Kt := rk (jof E20 (lp20 m)) N2 (contOf E20 G20 L m (lp20 n) (rk20 L R n N))
noncomputable def LOOPN20 (L : Lp) (R : Option Res → Prop) (n : Nat) (N : St → Prop) (m : Nat) (st : St) : Prop := L (lp20 m) st (contOf E20 G20 L m (lp20 n) (rk20 L R n N))
noncomputable def LOOP20 (L : Lp) (R : Option Res → Prop) (n : Nat) (st : St) : Prop := L (lp20 n) st (ct20 L R n)
theorem hg20 : HG Tryz.prog G20 := (hg_cons h39 (hg_cons h69 hg_nil))
theorem okf20 : Ok Tryz.prog E20 := okf.of Tryz.f20
theorem e20 (L : Lp) (R : Option Res → Prop) (x : Int) (s : List (Elem kc)) (d p : List (Elem k3)) (b : Bool) (f : List (Elem ki)) (n m : Int) : (bodyP Ef G20 L Tryz.f20 [coreAV x s d p b f n, .val (.int .i64 m)] [] R) = (
    br (smB' (x, s, d, p, b, f, n)) (br (coreOk (x, s, d, p, b, f, n).fst (x, s, d, p, b, f, n).snd.fst (x, s, d, p, b, f, n).snd.snd.fst (x, s, d, p, b, f, n).snd.snd.snd.fst (x, s, d, p, b, f, n).snd.snd.snd.snd.snd.fst (x, s, d, p, b, f, n).snd.snd.snd.snd.snd.snd) (br (decide (m ≤ 120)) (br (smCo (x, s, d, p, b, f, n) && decide (m ≤ 120)) (R (some { av := vB (mayB (x, s, d, p, b, f, n).snd.snd.fst (x, s, d, p, b, f, n).snd.snd.snd.snd.snd.fst m), obs := [], outs := [] })) False) (R (some { av := vB false, obs := [], outs := [] }))) (R (some { av := vB false, obs := [], outs := [] }))) False) := by kernel_rfl
theorem h20 : G1Ok Tryz.prog 20 g20 := by
  intro args obs k h
  unfold g20 at h
  split at h
  · rename_i k us m
    split at h
    rotate_left
    · exact h.elim
    rename_i c hc
    obtain rfl := coreOf_inv hc
    obtain ⟨x, s, d, p, b, f, n⟩ := c
    obtain ⟨hp, h⟩ := br_and h
    have hp1 : smCo (x, s, d, p, b, f, n) = true := by
      unfold smB' at hp
      rw [Bool.and_eq_true] at hp
      exact hp.1
    refine ⟨_, ctr_fn okf hg20 Tryz.func20 (by kernel_rfl) (by kernel_rfl) (by kernel_rfl) fun C => ?_, h⟩
    show bodyP Ef G20 _ Tryz.f20 [coreAV x s d p b f n, .val (.int .i64 m)] [] _
    rw [e20]
    refine br_t hp (br_intro (fun h1 => br_dec (fun h2 => br_t (by rw [hp1, decide_eq_true h2]; rfl) ?_) (fun h2 => ?_)) (fun h1 => ?_))
    · show (some ⟨.val (.bool (mayB d f m)), [], []⟩ : Option Res) = some ⟨.val (.bool (rmM (x, s, d, p, b, f, n) m)), [], []⟩
      unfold rmM romB
      rw [h1, decide_eq_true h2]
      rfl
    · show (some ⟨.val (.bool false), [], []⟩ : Option Res) = some ⟨.val (.bool (rmM (x, s, d, p, b, f, n) m)), [], []⟩
      unfold rmM romB
      rw [decide_eq_false h2, Bool.and_false]
      rfl
    · show (some ⟨.val (.bool false), [], []⟩ : Option Res) = some ⟨.val (.bool (rmM (x, s, d, p, b, f, n) m)), [], []⟩
      unfold rmM romB
      rw [h1]
      rfl
  · exact h.elim
noncomputable def E21 : Env := Ef.of Tryz.f21
noncomputable def G21 : Gk := gk [(70, g70), (71, g71)]
noncomputable def lp21 (n : Nat) : Code := (loopOf n (codeOf Tryz.f21)).getD .skip
noncomputable def ct21 (L : Lp) (R : Option Res → Prop) (n : Nat) : Kt := contOf E21 G21 L n (codeOf Tryz.f21) (endK E21 Tryz.f21.results.toList R)
noncomputable def rk21 (L : Lp) (R : Option Res → Prop) (n : Nat) (N : St → Prop) : Kt := rk (jof E21 (lp21 n)) N (ct21 L R n)
noncomputable def rkn21 (L : Lp) (R : Option Res → Prop) (n : Nat) (N : St → Prop) (m : Nat) (N2 : St → Prop) : Kt := rk (jof E21 (lp21 m)) N2 (contOf E21 G21 L m (lp21 n) (rk21 L R n N))
noncomputable def LOOPN21 (L : Lp) (R : Option Res → Prop) (n : Nat) (N : St → Prop) (m : Nat) (st : St) : Prop := L (lp21 m) st (contOf E21 G21 L m (lp21 n) (rk21 L R n N))
noncomputable def LOOP21 (L : Lp) (R : Option Res → Prop) (n : Nat) (st : St) : Prop := L (lp21 n) st (ct21 L R n)
theorem hg21 : HG Tryz.prog G21 := (hg_cons h70 (hg_cons h71 hg_nil))
theorem okf21 : Ok Tryz.prog E21 := okf.of Tryz.f21
theorem e21 (L : Lp) (R : Option Res → Prop) (x : Int) (s : List (Elem kc)) (d p : List (Elem k3)) (b : Bool) (f : List (Elem ki)) (n m : Int) : (bodyP Ef G21 L Tryz.f21 [coreAV x s d p b f n, .val (.int .i64 m)] [] R) = (
    br (smB' (x, s, d, p, b, f, n)) (br (romB (x, s, d, p, b, f, n) m) (br (okC (x, s, d, p, b, f, n) && decide (m ≤ 120)) (br (decide ((↑(frL (x, s, d, p, b, f, n).snd.snd.fst (x, s, d, p, b, f, n).snd.snd.snd.snd.snd.fst m).length : Int) > 16)) (br (decide (IntKind.i64.wrap (IntKind.i64.wrap (m - 13) - IntKind.i64.wrap ((↑d.length : Int) + 1)) ≥ 32)) (R (some { av := vB (decide ((↑d.length : Int) < 48)), obs := [], outs := [] })) (R (some { av := vB false, obs := [], outs := [] }))) (R (some { av := vB false, obs := [], outs := [] }))) False) (R (some { av := vB false, obs := [], outs := [] }))) False) := by kernel_rfl
theorem h21 : G1Ok Tryz.prog 21 g20 := by
  intro args obs k h
  unfold g20 at h
  split at h
  · rename_i k us m
    split at h
    rotate_left
    · exact h.elim
    rename_i c hc
    obtain rfl := coreOf_inv hc
    obtain ⟨x, s, d, p, b, f, n⟩ := c
    obtain ⟨hp, h⟩ := br_and h
    refine ⟨_, ctr_fn okf hg21 Tryz.func21 (by kernel_rfl) (by kernel_rfl) (by kernel_rfl) fun C => ?_, h⟩
    show bodyP Ef G21 _ Tryz.f21 [coreAV x s d p b f n, .val (.int .i64 m)] [] _
    rw [e21]
    refine br_t hp (br_intro (fun h1 => ?_) (fun h1 => ?_))
    · obtain ⟨hk, hm⟩ := rom_ok h1 hp
      have hdl : d.length ≤ 1048576 := by
        unfold okC at hk
        rw [Bool.and_eq_true] at hk
        exact smCo_d hk.1
      have hl : (frL d f m).length ≤ (m - 13).toNat := frP_len d f _
      refine br_t (by rw [hk, decide_eq_true hm]; rfl) (br_dec (fun h2 => ?_) (fun h2 => ?_))
      · have h2 : ((frL d f m).length : Int) > 16 := h2
        rw [wrap_id (n := m - 13) (by omega) (by omega), wrap_id (n := (d.length : Int) + 1) (by omega) (by omega), wrap_id (n := m - 13 - ((d.length : Int) + 1)) (by omega) (by omega)]
        refine br_dec (fun h3 => ?_) (fun h3 => ?_)
        · show (some ⟨.val (.bool (decide ((d.length : Int) < 48))), [], []⟩ : Option Res) = some ⟨.val (.bool (romB (x, s, d, p, b, f, n) m && mayB d f m)), [], []⟩
          unfold mayB
          rw [h1, decide_eq_true (show (frL d f m).length > 16 by omega), decide_eq_true (show m - 13 - d.length - 1 ≥ 32 by omega), Bool.true_and, Bool.true_and, Bool.true_and, show decide ((d.length : Int) < 48) = decide (d.length < 48) from decide_eq_decide.2 (by omega)]
        · show (some ⟨.val (.bool false), [], []⟩ : Option Res) = some ⟨.val (.bool (romB (x, s, d, p, b, f, n) m && mayB d f m)), [], []⟩
          unfold mayB
          rw [decide_eq_false (show ¬ m - 13 - d.length - 1 ≥ 32 by omega), Bool.false_and, Bool.and_false, Bool.and_false]
      · have h2 : ¬ ((frL d f m).length : Int) > 16 := h2
        show (some ⟨.val (.bool false), [], []⟩ : Option Res) = some ⟨.val (.bool (romB (x, s, d, p, b, f, n) m && mayB d f m)), [], []⟩
        unfold mayB
        rw [decide_eq_false (show ¬ (frL d f m).length > 16 by omega), Bool.false_and, Bool.and_false]
    · show (some ⟨.val (.bool false), [], []⟩ : Option Res) = some ⟨.val (.bool (romB (x, s, d, p, b, f, n) m && mayB d f m)), [], []⟩
      rw [h1]
      rfl
  · exact h.elim
noncomputable def E4 : Env := E0.of Tryz.f4
noncomputable def G4 : Gk := gk [(11, g11), (13, g13), (20, g20), (21, g20), (16, g16)]
noncomputable def lp4 (n : Nat) : Code := (loopOf n (codeOf Tryz.f4)).getD .skip
noncomputable def ct4 (L : Lp) (R : Option Res → Prop) (n : Nat) : Kt := contOf E4 G4 L n (codeOf Tryz.f4) (endK E4 Tryz.f4.results.toList R)
noncomputable def rk4 (L : Lp) (R : Option Res → Prop) (n : Nat) (N : St → Prop) : Kt := rk (jof E4 (lp4 n)) N (ct4 L R n)
noncomputable def rkn4 (L : Lp) (R : Option Res → Prop) (n : Nat) (N : St → Prop) (m : Nat) (N2 : St → Prop) : Kt := rk (jof E4 (lp4 m)) N2 (contOf E4 G4 L m (lp4 n) (rk4 L R n N))
noncomputable def LOOPN4 (L : Lp) (R : Option Res → Prop) (n : Nat) (N : St → Prop) (m : Nat) (st : St) : Prop := L (lp4 m) st (contOf E4 G4 L m (lp4 n) (rk4 L R n N))
noncomputable def LOOP4 (L : Lp) (R : Option Res → Prop) (n : Nat) (st : St) : Prop := L (lp4 n) st (ct4 L R n)
theorem hg4 : HG Tryz.prog G4 := (hg_cons h11 (hg_cons h13 (hg_cons h20 (hg_cons h21 (hg_cons h16 hg_nil)))))
theorem okf4 : Ok Tryz.prog E4 := ok0.of Tryz.f4
theorem e4 (L : Lp) (R : Option Res → Prop) (x : Int) (s : List (Elem kc)) (d p : List (Elem k3)) (b : Bool) (f : List (Elem ki)) (n m : Int) : (bodyP E0 G4 L Tryz.f4 [coreAV x s d p b f n, .val (.int .i64 m)] [] R) = (
    br (inCo (x, s, d, p, b, f, n) && true) (br (decide (szR 1048576 (szCo (x, s, d, p, b, f, n)) < 0)) (R (some { av := vB true, obs := [], outs := [] })) (br (smCo (x, s, d, p, b, f, n)) (br (smB' (x, s, d, p, b, f, n)) (br (smCo (x, s, d, p, b, f, n)) (br (smB' (x, s, d, p, b, f, n)) (br (!rmM (x, s, d, p, b, f, n) m == rmM (x, s, d, p, b, f, n) m) (R (some { av := vB false, obs := [], outs := [] })) (br (smCo (x, s, d, p, b, f, n)) (br (smCo (x, s, d, p, b, f, n)) (br (!eqCo (x, s, d, p, b, f, n) (x, s, d, p, b, f, n)) (R (some { av := vB false, obs := [], outs := [] })) (R (some { av := vB true, obs := [], outs := [] }))) False) False)) False) False) False) False)) False) := by kernel_rfl
theorem c4 (x : Int) (s : List (Elem kc)) (d p : List (Elem k3)) (b : Bool) (f : List (Elem ki)) (n m : Int) (h : coOk x s d p b f n) : Ctr Tryz.prog 4 [coreAV x s d p b f n, .val (.int .i64 m)] [] ⟨.val (.bool true), [], []⟩ := by
  refine ctr_fn ok0 hg4 Tryz.func4 (by kernel_rfl) (by kernel_rfl) (by kernel_rfl) fun C => ?_
  rw [e4, inCo_of h]
  refine br_t rfl (br_dec (fun _ => rfl) (fun h1 => ?_))
  have hs := smCo_of (Int.le_refl _) h1
  have hb := smB'_of (Int.le_refl _) h1
  rw [hs, hb, eqCo_self, not_beq_self]
  exact br_t rfl (br_t rfl (br_t rfl (br_t rfl (br_f rfl (br_t rfl (br_t rfl (br_f rfl rfl)))))))
end Go.Proofs.YtkjnijddbiconaaGreatDoor.Ev
